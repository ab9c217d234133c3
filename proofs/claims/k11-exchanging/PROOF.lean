import PyProof.Rows.All
import Wide.All
import OpenK.AllK
import Wide.FinOn
import KE.KStateDown
import Lean
import HandS.ForMost
import HandS.ForExc
import HandS.Wide
import HandS.Defaults
import HandS.Head0
import HandS.Head1
import HandS.Head2
import HandS.HeadEnd
import HandS.HeadHook1
import HandS.HeadHook2
import HandS.ExcIs
import HandS.TupAny
import HandS.TupMul
import HandS.NoneIn
import HandS.Flow
import HandS.Ends
import HandS.More
import HandS.IsInst
import HandS.Deep
import HandS.Style
import HandS.Dict
import HandS.TupSets
import HandS.SortRule
import HandS.SortInts
import PySem.Challenge.RW_circlemirrors_k11_whole_exchanging
set_option Elab.async false
set_option linter.all false
set_option maxRecDepth 100000
set_option maxHeartbeats 0
/-! the evaluator: data D, expressions E, statements T -/
namespace Cm
open PySem PySem.Spec PyProof.Rows L2

inductive D where
  | non
  | bl (b : Bool)
  | int (i : Int)
  | str (x : Str)
  | tup (xs : List D)
  | lst (xs : List D)
  | exc (k : Nat)
  | scr (ns : List Int)

mutual
def deq : D → D → Bool
  | .non, .non => true
  | .bl a, .bl b => a == b
  | .bl a, .int j => (if a then 1 else 0) == j
  | .int i, .bl b => i == (if b then 1 else 0)
  | .int i, .int j => i == j
  | .str x, .str y => x == y
  | .lst xs, .lst ys => deqL xs ys
  | .tup xs, .tup ys => deqL xs ys
  | _, _ => false
def deqL : List D → List D → Bool
  | [], [] => true
  | x :: xs, y :: ys => deq x y && deqL xs ys
  | _, _ => false
end
mutual
/-- may be compared: no exception within, short texts; n bounds the depth -/
def pln : Nat → D → Bool
  | _, .non => true
  | _, .bl _ => true
  | _, .int _ => true
  | _, .str x => PySem.PyData.strOk x
  | n + 1, .tup xs => plnL n xs
  | n + 1, .lst xs => plnL n xs
  | _, _ => false
def plnL : Nat → List D → Bool
  | _, [] => true
  | n, x :: xs => pln n x && plnL n xs
end

inductive Sl where
  | un
  | d (x : D)
  | ref (j : Nat)
inductive Cl where
  | dead
  | live (x : D)
  | fz (x : D)
abbrev Sto := List Cl
abbrev Fr := List Sl

inductive Bo where | add | sub | mul | fdiv | mod | pow
inductive Co where | eq | ne | lt | le | gt | ge | isin | nin
inductive Tg where
  | nm (i : Nat)
  | nil
  | cons (a b : Tg)
inductive Bf where
  | len | abs | all | any | sum | max | tuple | list | int | cnt | ix | isi (k : Nat)
  | min2 | srt | nset | ist (k : Nat) | rev

/-- expressions -/
inductive E where
  | var (i : Nat)
  | arg (i : Nat)
  | lit (x : D)
  | bin (o : Bo) (a b : E)
  | neg (a : E)
  | cmp (o : Co) (a b : E)
  | chn (o o' : Co) (a b c : E)
  | isc (a : E) (x : D) (p : Bool)
  | and (a b : E)
  | or (a b : E)
  | not (a : E)
  | tru (a : E)
  | ifx (c a b : E)
  | idx (a b : E)
  | slc (a lo hi : E)
  | prt (a : E)
  | tup (as : E)
  | lst (as : E)
  | nil
  | cons (a as : E)
  | call (f : Nat) (as : E)
  | blt (f : Bf) (as : E)
  | rng1 (a : E)
  | rng2 (a b : E)
  | comp (ws : List Nat) (g : Tg) (it c e : E)
  | pop (i : Nat)
  | mth (f : Bf) (a y : E)
  | aft (a : E)
  | dsel (ks : List Int) (vs a : E)
  | never

/-- statements -/
inductive T where
  | nop
  | seq (s r : T)
  | asg (g : Tg) (e : E)
  | par (i j : Nat) (a b : E)
  | asgM (i k : Nat) (e : E)
  | setx (x : E) (k e : E)
  | apd (x : E) (e : E)
  | ins (x : E) (k e : E)
  | exp (e : E)
  | ret (e : E)
  | ite (c : E) (a b : T)
  | whl (c : E) (b : T)
  | for (g : Tg) (it : E) (b : T)
  | brk
  | rse (k : Nat)
  | tryc (i j : Nat) (b : T)
  | never

/-! ### operations -/
def LIM : Nat := 2 ^ 8000
def smB (i : Int) : Bool := Nat.blt i.natAbs LIM
def addD : D → D → Option D
  | .int i, .int j => some (.int (i + j))
  | .lst xs, .lst ys => if Nat.ble (xs.length + ys.length) 1000000 then some (.lst (xs ++ ys)) else none
  | .tup xs, .tup ys => if Nat.ble (xs.length + ys.length) 1000000 then some (.tup (xs ++ ys)) else none
  | _, _ => none
def subD : D → D → Option D
  | .int i, .int j => some (.int (i - j))
  | _, _ => none
def mulD : D → D → Option D
  | .int i, .int j => if smB i && smB j then some (.int (i * j)) else none
  | .lst xs, .int k => if Nat.ble (xs.length * k.toNat) 1000000 && Nat.blt k.natAbs 1000000 then some (.lst (List.replicate k.toNat xs).flatten) else none
  | .tup xs, .int k => if Nat.ble 1 xs.length && Nat.ble xs.length 1000 && (decide (2 ≤ k) && decide (k ≤ 1000)) then some (.tup (List.replicate k.toNat xs).flatten) else none
  | _, _ => none
def fdivD : D → D → Option D
  | .int i, .int j => if smB j && !(j == 0) then some (.int (i.fdiv j)) else none
  | _, _ => none
def modD : D → D → Option D
  | .int i, .int j => if j == 0 then none else some (.int (i.fmod j))
  | _, _ => none
def powD : D → D → Option D
  | .int i, .int j => if Nat.blt i.natAbs 18446744073709551616 && (decide (0 ≤ j) && decide (j ≤ 1000)) then some (.int (i ^ j.toNat)) else none
  | _, _ => none
def binD : Bo → D → D → Option D
  | .add => addD
  | .sub => subD
  | .mul => mulD
  | .fdiv => fdivD
  | .mod => modD
  | .pow => powD
/-- x in y -/
def inD (x y : D) : Option Bool := match y with
  | .lst ys => if pln 50 x && pln 50 (.lst ys) then some (ys.any fun z => deq z x) else none
  | .tup ys => if pln 50 x && pln 50 (.tup ys) then some (ys.any fun z => deq z x) else none
  | _ => none
def cmpD : Co → D → D → Option Bool
  | .eq, x, y => if pln 60 x && pln 60 y then some (deq x y) else none
  | .ne, x, y => if pln 60 x && pln 60 y then some (!deq x y) else none
  | .lt, .int i, .int j => some (decide (i < j))
  | .le, .int i, .int j => some (decide (i ≤ j))
  | .gt, .int i, .int j => some (decide (j < i))
  | .ge, .int i, .int j => some (decide (j ≤ i))
  | .isin, x, y => inD x y
  | .nin, x, y => (inD x y).map fun b => !b
  | _, _, _ => none
def truD : D → Option Bool
  | .non => some false
  | .bl b => some b
  | .int i => some (i != 0)
  | .tup xs => some (!xs.isEmpty)
  | .lst xs => some (!xs.isEmpty)
  | .scr xs => some (!xs.isEmpty)
  | _ => none
/-- is: None, True, False -/
def iscD : D → D → Option Bool
  | .non, .non => some true
  | _, .non => some false
  | .bl a, .bl b => some (a == b)
  | _, _ => none
def itemD (x : D) (i : Int) : Option D := match x with
  | .tup xs => atI xs i
  | .lst xs => atI xs i
  | .scr xs => (atI xs i).map .int
  | _ => none
def cutD (xs : List D) (lo hi : Option Int) : List D := (xs.drop (HT.sIx xs.length 0 lo)).take (HT.sIx xs.length xs.length hi - HT.sIx xs.length 0 lo)
def slcD (x : D) (lo hi : Option Int) : Option D := match x with
  | .tup xs => some (.tup (cutD xs lo hi))
  | .lst xs => some (.lst (cutD xs lo hi))
  | _ => none
def intsD : List D → Option (List Int)
  | [] => some []
  | .int i :: r => (intsD r).map fun l => i :: l
  | _ => none
def bolsD : List D → Option (List Bool)
  | [] => some []
  | .bl b :: r => (bolsD r).map fun l => b :: l
  | _ => none
def seqD : D → Option (List D)
  | .tup xs => some xs
  | .lst xs => some xs
  | _ => none
def ixFrom (n : Nat) (y : D) : List D → Option Nat
  | [] => none
  | x :: r => if deq x y then some n else ixFrom (n + 1) y r
def flatD : D → Bool
  | .non => true
  | .bl _ => true
  | .int _ => true
  | .str _ => true
  | _ => false
def mthD : Bf → D → D → Option D
  | .cnt, .lst xs, y => if flatD y && xs.all flatD then some (.int (xs.countP fun z => deq z y : Nat)) else none
  | .ix, .lst xs, y => if flatD y && xs.all flatD then (ixFrom 0 y xs).map fun j => .int (j : Nat) else none
  | _, _, _ => none
def maxI : List Int → Int
  | [] => 0
  | [i] => i
  | i :: r => if i ≥ maxI r then i else maxI r
/-- ints in a tuple -/
def tupI : D → Option (List Int)
  | .tup xs => intsD xs
  | _ => none
def tupsI : List D → Option (List (List Int))
  | [] => some []
  | x :: r => match tupI x with
    | some n => (tupsI r).map fun l => n :: l
    | none => none
def lexI : List Int → List Int → Bool
  | [], [] => false
  | [], _ :: _ => true
  | _ :: _, [] => false
  | i :: r, j :: q => if i = j then lexI r q else decide (i < j)
def insB {α : Type} (lt : α → α → Bool) (x : α) : List α → List α
  | [] => [x]
  | y :: r => if lt y x then y :: insB lt x r else x :: y :: r
def sortB {α : Type} (lt : α → α → Bool) : List α → List α
  | [] => []
  | x :: r => insB lt x (sortB lt r)
def tupO (l : List Int) : D := .tup (l.map .int)
/-- sorted(xs): ints, or tuples of as many ints each -/
def srtD (xs : List D) : Option D := match intsD xs with
  | some l => some (.lst ((sortB (fun i j => decide (i < j)) l).map .int))
  | none => (match tupsI xs with
    | some ls => if ls.all (fun l => Nat.beq l.length (ls.headD []).length && Nat.ble 1 l.length) then some (.lst ((sortB lexI ls).map tupO)) else none
    | none => none)
def nubI : List (List Int) → List (List Int)
  | [] => []
  | x :: r => if (nubI r).contains x then nubI r else x :: nubI r
/-- len(set(xs)): tuples of ints -/
def nsetD (xs : List D) : Option D := match tupsI xs with
  | some ls => if Nat.ble xs.length 60 then some (.int (nubI ls).length) else none
  | none => none
def istD : Nat → D → Option Bool
  | _, .scr _ => none
  | _, .exc _ => none
  | k, .str _ => some (k == 0)
  | k, .bl _ => some (k == 1)
  | k, .lst _ => some (k == 2)
  | k, .tup _ => some (k == 3)
  | _, _ => some false
def ixI (i : Int) : List Int → List D → Option D
  | k :: ks, x :: xs => if k = i then some x else ixI i ks xs
  | _, _ => none
/-- {k: v, ..}[i] -/
def dselD (ks : List Int) : D → List D → Option D
  | .int i, xs => if Nat.beq xs.length ks.length then ixI i ks xs else none
  | _, _ => none
/-- isinstance of an exception of class k: KIND k j -/
structure Lw where
  sub : Nat → Nat → Option Bool
def bltD (L : Lw) : Bf → List D → Option D
  | .len, [.tup xs] => some (.int xs.length)
  | .len, [.lst xs] => some (.int xs.length)
  | .len, [.scr xs] => some (.int xs.length)
  | .abs, [.int i] => some (.int (if i < 0 then -i else i))
  | .all, [.lst xs] => (bolsD xs).map fun l => .bl (l.all id)
  | .any, [.lst xs] => (bolsD xs).map fun l => .bl (l.any id)
  | .sum, [.lst xs] => (intsD xs).map fun l => .int l.sum
  | .max, [.lst xs] => (intsD xs).bind fun l => if l.isEmpty then none else some (.int (maxI l))
  | .tuple, [.lst xs] => some (.tup xs)
  | .tuple, [.tup xs] => some (.tup xs)
  | .list, [.lst xs] => some (.lst xs)
  | .list, [.tup xs] => some (.lst xs)
  | .int, [.bl b] => some (.int (if b then 1 else 0))
  | .int, [.int i] => some (.int i)
  | .isi k, [.exc j] => (L.sub j k).map .bl
  | .min2, [.int i, .int j] => some (.int (if j < i then j else i))
  | .srt, [.lst xs] => srtD xs
  | .nset, [.lst xs] => nsetD xs
  | .ist k, [x] => (istD k x).map .bl
  | .rev, [.lst xs] => some (.lst xs.reverse)
  | _, _ => none

/-! ### evaluation -/
inductive Xr where
  | v (s : Sl)
  | vs (l : List Sl)
  | rz (k : Nat)
inductive Cr where
  | ok (x : D)
  | rz (k : Nat)
inductive Rr where
  | nx
  | ret (x : D)
  | bk
  | rz (k : Nat)
abbrev Ce := Nat → List Sl → Sto → Option (Cr × Sto)

def peek (S : Sto) : Sl → Option D
  | .d x => some x
  | .ref j => match S[j]? with
    | some (.live x) => some x
    | some (.fz x) => some x
    | _ => none
  | .un => none
def peekL (S : Sto) : List Sl → Option (List D)
  | [] => some []
  | s :: r => match peek S s with
    | some x => (peekL S r).map fun l => x :: l
    | none => none
/-- all are data -/
def datL : List Sl → Option (List D)
  | [] => some []
  | .d x :: r => (datL r).map fun l => x :: l
  | _ => none
def bnd (m : Option (Xr × Sto)) (k : Sl → Sto → Option (Xr × Sto)) : Option (Xr × Sto) := match m with
  | some (.v s, S) => k s S
  | some (.rz n, S) => some (.rz n, S)
  | _ => none
def bndL (m : Option (Xr × Sto)) (k : List Sl → Sto → Option (Xr × Sto)) : Option (Xr × Sto) := match m with
  | some (.vs l, S) => k l S
  | some (.rz n, S) => some (.rz n, S)
  | _ => none
def outD (S : Sto) (o : Option D) : Option (Xr × Sto) := match o with
  | some x => some (.v (.d x), S)
  | none => none
def outB (S : Sto) (o : Option Bool) : Option (Xr × Sto) := match o with
  | some x => some (.v (.d (.bl x)), S)
  | none => none
def pk1 (S : Sto) (s : Sl) (f : D → Option (Xr × Sto)) : Option (Xr × Sto) := match peek S s with
  | some x => f x
  | none => none
def pk2 (S : Sto) (s t : Sl) (f : D → D → Option (Xr × Sto)) : Option (Xr × Sto) := pk1 S s fun x => pk1 S t fun y => f x y
/-- a test's answer -/
def tst (m : Option (Xr × Sto)) (k : Bool → Sto → Option (Xr × Sto)) : Option (Xr × Sto) := match m with
  | some (.v (.d (.bl b)), S) => k b S
  | some (.rz n, S) => some (.rz n, S)
  | _ => none
def bindT : Tg → D → Fr → Option Fr
  | .nm i, x, fr => some (fr.set i (.d x))
  | .nil, x, fr => match x with
    | .tup [] => some fr
    | .lst [] => some fr
    | _ => none
  | .cons a b, x, fr => match x with
    | .tup (y :: ys) => (bindT a y fr).bind (bindT b (.tup ys))
    | .lst (y :: ys) => (bindT a y fr).bind (bindT b (.lst ys))
    | _ => none
def wipeS (sl : List Sl) : List Nat → List Sl
  | [] => sl
  | v :: vs => (wipeS sl vs).set v .un
def compL (f : D → Sto → Option (Option D × Sto)) : List D → List D → Sto → Option (Xr × Sto)
  | [], acc, S => some (.v (.d (.lst acc)), S)
  | x :: xs, acc, S => match f x S with
    | some (some y, S1) => compL f xs (acc ++ [y]) S1
    | some (none, S1) => compL f xs acc S1
    | none => none
def rngL (lo hi : Int) : List D := (List.range (hi - lo).toNat).map fun k => .int (lo + (k : Nat))
def mid (i : Int) : Bool := decide (-1000000 ≤ i) && decide (i ≤ 1000000)
def optS : Sl → Option (Option Int)
  | .d .non => some none
  | .d (.int i) => some (some i)
  | _ => none
section
variable (L : Lw) (c : Ce)
def evE : E → Fr → Sto → Option (Xr × Sto)
  | .var i, fr, S => match fr[i]? with
    | some (.d x) => some (.v (.d x), S)
    | some (.ref j) => (match S[j]? with
      | some (.live x) => some (.v (.d x), S.set j (.fz x))
      | some (.fz x) => some (.v (.d x), S)
      | _ => none)
    | _ => none
  | .arg i, fr, S => match fr[i]? with
    | some (.d x) => some (.v (.d x), S)
    | some (.ref j) => some (.v (.ref j), S)
    | _ => none
  | .lit x, _, S => some (.v (.d x), S)
  | .bin o a b, fr, S => bnd (evE a fr S) fun s S1 => bnd (evE b fr S1) fun t S2 => pk2 S2 s t fun x y => outD S2 (binD o x y)
  | .neg a, fr, S => bnd (evE a fr S) fun s S1 => pk1 S1 s fun x => outD S1 (match x with | .int i => some (.int (-i)) | _ => none)
  | .cmp o a b, fr, S => bnd (evE a fr S) fun s S1 => bnd (evE b fr S1) fun t S2 => pk2 S2 s t fun x y => outB S2 (cmpD o x y)
  | .chn o o' a b d, fr, S => bnd (evE a fr S) fun s S1 => bnd (evE b fr S1) fun t S2 => pk2 S2 s t fun x y => match cmpD o x y with
    | some true => bnd (evE d fr S2) fun u S3 => pk2 S3 t u fun y z => outB S3 (cmpD o' y z)
    | some false => some (.v (.d (.bl false)), S2)
    | none => none
  | .isc a y p, fr, S => bnd (evE a fr S) fun s S1 => pk1 S1 s fun x => outB S1 ((iscD x y).map fun b => if p then b else !b)
  | .and a b, fr, S => tst (evE a fr S) fun r S1 => match r with
    | true => evE b fr S1
    | false => some (.v (.d (.bl false)), S1)
  | .or a b, fr, S => tst (evE a fr S) fun r S1 => match r with
    | true => some (.v (.d (.bl true)), S1)
    | false => evE b fr S1
  | .not a, fr, S => tst (evE a fr S) fun r S1 => some (.v (.d (.bl (!r))), S1)
  | .tru a, fr, S => bnd (evE a fr S) fun s S1 => pk1 S1 s fun x => outB S1 (truD x)
  | .ifx a x y, fr, S => tst (evE a fr S) fun r S1 => match r with
    | true => evE x fr S1
    | false => evE y fr S1
  | .idx a b, fr, S => bnd (evE a fr S) fun s S1 => bnd (evE b fr S1) fun t S2 => pk2 S2 s t fun x y => match y with
    | .int i => outD S2 (itemD x i)
    | _ => none
  | .slc a lo hi, fr, S => bnd (evE a fr S) fun s S1 => bnd (evE lo fr S1) fun t S2 => match optS t with
    | some l => bnd (evE hi fr S2) fun u S3 => (match optS u with
      | some h => pk1 S3 s fun x => outD S3 (slcD x l h)
      | none => none)
    | none => none
  | .prt a, fr, S => bnd (evE a fr S) fun s S1 => match s with
    | .d (.int i) => some (.v (.d (.int i)), S1)
    | _ => none
  | .tup as, fr, S => bndL (evE as fr S) fun l S1 => match datL l with
    | some xs => if Nat.ble xs.length 1000000 then some (.v (.d (.tup xs)), S1) else none
    | none => none
  | .lst as, fr, S => bndL (evE as fr S) fun l S1 => match datL l with
    | some xs => if Nat.ble xs.length 1000000 then some (.v (.d (.lst xs)), S1) else none
    | none => none
  | .nil, _, S => some (.vs [], S)
  | .cons a as, fr, S => bnd (evE a fr S) fun s S1 => bndL (evE as fr S1) fun l S2 => some (.vs (s :: l), S2)
  | .call f as, fr, S => bndL (evE as fr S) fun l S1 => match c f l S1 with
    | some (.ok x, S2) => some (.v (.d x), S2)
    | some (.rz k, S2) => some (.rz k, S2)
    | none => none
  | .blt f as, fr, S => bndL (evE as fr S) fun l S1 => match peekL S1 l with
    | some xs => outD S1 (bltD L f xs)
    | none => none
  | .rng1 a, fr, S => bnd (evE a fr S) fun s S1 => match s with
    | .d (.int j) => if mid j then some (.v (.d (.lst (rngL 0 j))), S1) else none
    | _ => none
  | .rng2 a b, fr, S => bnd (evE a fr S) fun s S1 => bnd (evE b fr S1) fun t S2 => match s, t with
    | .d (.int i), .d (.int j) => if mid i && mid j then some (.v (.d (.lst (rngL i j))), S2) else none
    | _, _ => none
  | .comp ws g it d e, fr, S => bnd (evE it fr S) fun s S1 => match s with
    | .d x => (match seqD x with
      | some xs => if Nat.ble xs.length 100000 then
          compL (fun x S => match bindT g x (wipeS fr ws) with
            | some fr2 => (match evE d fr2 S with
              | some (.v (.d (.bl true)), S1) => (match evE e fr2 S1 with
                | some (.v (.d y), S2) => some (some y, S2)
                | _ => none)
              | some (.v (.d (.bl false)), S1) => some (none, S1)
              | _ => none)
            | none => none) xs [] S1 else none
      | none => none)
    | _ => none
  | .pop i, fr, S => match fr[i]? with
    | some (.ref j) => (match S[j]? with
      | some (.live (.lst xs)) => (match xs.getLast? with
        | some y => some (.v (.d y), S.set j (.live (.lst xs.dropLast)))
        | none => none)
      | _ => none)
    | _ => none
  | .mth f a y, fr, S => bnd (evE a fr S) fun s S1 => match peek S1 s with
    | some (.lst _) => bnd (evE y fr S1) fun t S2 => pk2 S2 s t fun x y => outD S2 (mthD f x y)
    | _ => none
  | .aft a, fr, S => match evE a fr S with
    | some (.rz k, S1) => some (.rz k, S1)
    | _ => none
  | .dsel ks vs a, fr, S => bndL (evE vs fr S) fun l S1 => match datL l with
    | some xs => bnd (evE a fr S1) fun s S2 => match s with
      | .d y => outD S2 (dselD ks y xs)
      | _ => none
    | none => none
  | .never, _, _ => none
end

def noref (m : Nat) : List Sl → Bool
  | [] => true
  | .ref j :: r => (!Nat.beq j m) && noref m r
  | _ :: r => noref m r
def bndS (m : Option (Rr × Fr × Sto)) (k : Fr → Sto → Option (Rr × Fr × Sto)) : Option (Rr × Fr × Sto) := match m with
  | some (.nx, fr, S) => k fr S
  | r => r
/-- an expression within a statement -/
def bndE (fr : Fr) (m : Option (Xr × Sto)) (k : Sl → Sto → Option (Rr × Fr × Sto)) : Option (Rr × Fr × Sto) := match m with
  | some (.v s, S) => k s S
  | some (.rz n, S) => some (.rz n, fr, S)
  | _ => none
def forL (f : D → Fr → Sto → Option (Rr × Fr × Sto)) : List D → Fr → Sto → Option (Rr × Fr × Sto)
  | [], fr, S => some (.nx, fr, S)
  | x :: xs, fr, S => match f x fr S with
    | some (.nx, fr1, S1) => forL f xs fr1 S1
    | some (.bk, fr1, S1) => some (.nx, fr1, S1)
    | r => r
def whlL (t : Fr → Sto → Option (Xr × Sto)) (f : Fr → Sto → Option (Rr × Fr × Sto)) : Nat → Fr → Sto → Option (Rr × Fr × Sto)
  | 0, _, _ => none
  | n + 1, fr, S => match t fr S with
    | some (.v (.d (.bl true)), S1) => (match f fr S1 with
      | some (.nx, fr1, S2) => whlL t f n fr1 S2
      | some (.bk, fr1, S2) => some (.nx, fr1, S2)
      | r => r)
    | some (.v (.d (.bl false)), S1) => some (.nx, fr, S1)
    | some (.rz k, S1) => some (.rz k, fr, S1)
    | _ => none
def parK (fr : Fr) (i j : Nat) (s t : Sl) (S : Sto) : Option (Rr × Fr × Sto) := match s, t with
  | .d x, .d y => some (.nx, (fr.set i (.d x)).set j (.d y), S)
  | _, _ => none
def setK (fr : Fr) (s t u : Sl) (S : Sto) : Option (Rr × Fr × Sto) := match s, t, u with
  | .d y, .ref j, .d (.int i) => (match S[j]? with
    | some (.live (.lst xs)) => (match ixN xs.length i with
      | some m => some (.nx, fr, S.set j (.live (.lst (xs.set m y))))
      | none => none)
    | _ => none)
  | _, _, _ => none
def insK (fr : Fr) (t u s : Sl) (S : Sto) : Option (Rr × Fr × Sto) := match t, u, s with
  | .ref j, .d (.int i), .d y => (match S[j]? with
    | some (.live (.lst xs)) => if Nat.ble xs.length 1000000 && (decide (0 ≤ i) && decide (i ≤ 1000000)) then some (.nx, fr, S.set j (.live (.lst (xs.take i.toNat ++ [y] ++ xs.drop i.toNat)))) else none
    | _ => none)
  | _, _, _ => none
def LF : Nat := 2 ^ 9000
section
variable (L : Lw) (c : Ce) (b : Nat)
def evT : T → Fr → Sto → Option (Rr × Fr × Sto)
  | .nop, fr, S => some (.nx, fr, S)
  | .seq s r, fr, S => bndS (evT s fr S) fun fr1 S1 => evT r fr1 S1
  | .asg g e, fr, S => bndE fr (evE L c e fr S) fun s S1 => match s with
    | .d x => (match bindT g x fr with
      | some fr1 => some (.nx, fr1, S1)
      | none => none)
    | _ => none
  | .par i j x y, fr, S => bndE fr (evE L c x fr S) fun s S1 => bndE fr (evE L c y fr S1) fun t S2 => parK fr i j s t S2
  | .asgM i k e, fr, S => bndE fr (evE L c e fr S) fun s S1 => match s with
    | .d (.lst xs) => if Nat.blt (b + k) S1.length && noref (b + k) (fr.set i .un) then some (.nx, fr.set i (.ref (b + k)), S1.set (b + k) (.live (.lst xs))) else none
    | _ => none
  | .setx x k e, fr, S => bndE fr (evE L c e fr S) fun s S1 => bndE fr (evE L c x fr S1) fun t S2 => bndE fr (evE L c k fr S2) fun u S3 => setK fr s t u S3
  | .apd x e, fr, S => bndE fr (evE L c x fr S) fun t S1 => match t with
    | .ref j => (match S1[j]? with
      | some (.live (.lst _)) => bndE fr (evE L c e fr S1) fun s S2 => (match s with
        | .d y => (match S2[j]? with
          | some (.live (.lst xs)) => if Nat.ble xs.length 1000000 then some (.nx, fr, S2.set j (.live (.lst (xs ++ [y])))) else none
          | _ => none)
        | _ => none)
      | _ => none)
    | _ => none
  | .ins x k e, fr, S => bndE fr (evE L c x fr S) fun t S1 => match t with
    | .ref j => (match S1[j]? with
      | some (.live (.lst _)) => bndE fr (evE L c k fr S1) fun u S2 => bndE fr (evE L c e fr S2) fun s S3 => insK fr t u s S3
      | _ => none)
    | _ => none
  | .exp e, fr, S => bndE fr (evE L c e fr S) fun _ S1 => some (.nx, fr, S1)
  | .ret e, fr, S => bndE fr (evE L c e fr S) fun s S1 => match s with
    | .d x => some (.ret x, fr, S1)
    | _ => none
  | .ite t x y, fr, S => match evE L c t fr S with
    | some (.v (.d (.bl true)), S1) => evT x fr S1
    | some (.v (.d (.bl false)), S1) => evT y fr S1
    | some (.rz k, S1) => some (.rz k, fr, S1)
    | _ => none
  | .whl t x, fr, S => whlL (evE L c t) (evT x) LF fr S
  | .for g it y, fr, S => bndE fr (evE L c it fr S) fun s S1 => match s with
    | .d x => (match seqD x with
      | some xs => forL (fun x fr S => match bindT g x fr with
        | some fr1 => evT y fr1 S
        | none => none) xs fr S1
      | none => none)
    | _ => none
  | .brk, fr, S => some (.bk, fr, S)
  | .rse k, fr, S => some (.rz k, fr, S)
  | .tryc i j x, fr, S => match evT x fr S with
    | some (.rz k, fr1, S1) => some (.nx, (fr1.set j (.d (.exc k))).set i .un, S1)
    | r => r
  | .never, _, _ => none
end

structure Fn where
  p : Nat
  n : Nat
  m : Nat
  body : T
def ends (n : Nat) : Option (Rr × Fr × Sto) → Option (Cr × Sto)
  | some (.nx, _, S) => some (.ok .non, S.take n)
  | some (.ret x, _, S) => some (.ok x, S.take n)
  | some (.rz k, _, S) => some (.rz k, S.take n)
  | _ => none
def fr0 (F : Fn) (as : List Sl) : Fr := as ++ List.replicate (F.n - F.p) .un
def callE (L : Lw) (P : List Fn) : Nat → Ce
  | 0 => fun _ _ _ => none
  | n + 1 => fun f as S => match P[f]? with
    | some F => if as.length == F.p then ends S.length (evT L (callE L P n) S.length F.body (fr0 F as) (S ++ List.replicate F.m .dead)) else none
    | none => none
end Cm

/-! data in the abstract heap -/
namespace Cm
open PySem PySem.Spec PyProof.Rows L2

/-- a caught error of the class at c, kept at a -/
def ExK (c : Value) (a : Addr) : HO := .ext fun h => ∃ (oe : Obj) (vs : Array Value), h.get? a = some oe ∧ Zc c none oe ∧ oe.data = .fields vs

/-- the fixed things: the written part, the classes of errors by number -/
structure Gx where
  K : PySem.W.Frag
  C : Nat → Addr

mutual
inductive Rep (g : Gx) (F : Hp) : D → V → Prop
  | non : Rep g F .non .non
  | bl (b : Bool) : Rep g F (.bl b) (.bl b)
  | int (i : Int) : Rep g F (.int i) (.int i)
  | str (x : Str) : Rep g F (.str x) (.str x)
  | tup {a : Addr} {vs : List V} {ds : List D} : F a = some (.tup vs) → Reps g F ds vs → Rep g F (.tup ds) (.ref a)
  | lst {a : Addr} {vs : List V} {ds : List D} : F a = some (.lst vs) → Reps g F ds vs → Rep g F (.lst ds) (.ref a)
  | exc {a : Addr} {k : Nat} : F a = some (ExK (.ref (g.C k)) a) → Rep g F (.exc k) (.ref a)
  | scr {a : Addr} {ns : List Int} : SqL g.K F a (ns.map V.int) → Rep g F (.scr ns) (.ref a)
inductive Reps (g : Gx) (F : Hp) : List D → List V → Prop
  | nil : Reps g F [] []
  | cons {x : D} {v : V} {xs : List D} {vs : List V} : Rep g F x v → Reps g F xs vs → Reps g F (x :: xs) (v :: vs)
end

/-- grows -/
def Le (F F' : Hp) : Prop := ∀ a o, F a = some o → F' a = some o
theorem Le.refl (F : Hp) : Le F F := fun _ _ h => h
theorem Le.trans {F F1 F2 : Hp} (h : Le F F1) (h' : Le F1 F2) : Le F F2 := fun a o e => h' a o (h a o e)
theorem Le.new {F : Hp} {p : Addr} {o : HO} (h : F p = none) : Le F (upd F p o) := fun a u e => by
  rw [upd_ne (ne_of_none e h)]; exact e
theorem Le.sqL {K : PySem.W.Frag} {F F' : Hp} (h : Le F F') {a : Addr} {xs : List V} (q : SqL K F a xs) : SqL K F' a xs := by
  rcases q with (q | ⟨o, q⟩) | q
  · exact .inl (.inl (h _ _ q))
  · exact .inl (.inr ⟨o, h _ _ q⟩)
  · exact .inr q
theorem Le.sqT {K : PySem.W.Frag} {F F' : Hp} (h : Le F F') {a : Addr} {xs : List V} (q : SqT K F a xs) : SqT K F' a xs := by
  rcases q with (q | ⟨o, q⟩) | q
  · exact .inl (.inl (h _ _ q))
  · exact .inl (.inr ⟨o, h _ _ q⟩)
  · exact .inr q
section
variable {g : Gx} {F F' : Hp}
mutual
theorem Rep.mono (h : Le F F') : ∀ {x : D} {v : V}, Rep g F x v → Rep g F' x v
  | _, _, .non => .non
  | _, _, .bl b => .bl b
  | _, _, .int i => .int i
  | _, _, .str x => .str x
  | _, _, .tup q r => .tup (h _ _ q) (Reps.mono h r)
  | _, _, .lst q r => .lst (h _ _ q) (Reps.mono h r)
  | _, _, .exc q => .exc (h _ _ q)
  | _, _, .scr q => .scr (h.sqL q)
theorem Reps.mono (h : Le F F') : ∀ {xs : List D} {vs : List V}, Reps g F xs vs → Reps g F' xs vs
  | _, _, .nil => .nil
  | _, _, .cons r t => .cons (Rep.mono h r) (Reps.mono h t)
end
theorem Reps.length : ∀ {xs : List D} {vs : List V}, Reps g F xs vs → xs.length = vs.length
  | _, _, .nil => rfl
  | _, _, .cons _ t => congrArg Nat.succ (Reps.length t)
theorem Reps.get : ∀ {xs : List D} {vs : List V} {i : Nat} {x : D}, Reps g F xs vs → xs[i]? = some x → ∃ v, vs[i]? = some v ∧ Rep g F x v
  | _, _, _, _, .nil, e => by simp at e
  | _, _, 0, _, .cons r _, e => by simp at e; subst e; exact ⟨_, rfl, r⟩
  | _, _, i + 1, _, .cons _ t, e => by
    obtain ⟨v, h1, h2⟩ := Reps.get (i := i) t (by simpa using e)
    exact ⟨v, by simpa using h1, h2⟩
theorem Reps.getV : ∀ {xs : List D} {vs : List V} {i : Nat} {v : V}, Reps g F xs vs → vs[i]? = some v → ∃ x, xs[i]? = some x ∧ Rep g F x v
  | _, _, _, _, .nil, e => by simp at e
  | _, _, 0, _, .cons r _, e => by simp at e; subst e; exact ⟨_, rfl, r⟩
  | _, _, i + 1, _, .cons _ t, e => by
    obtain ⟨v, h1, h2⟩ := Reps.getV (i := i) t (by simpa using e)
    exact ⟨v, by simpa using h1, h2⟩
theorem Reps.append : ∀ {xs ys : List D} {vs ws : List V}, Reps g F xs vs → Reps g F ys ws → Reps g F (xs ++ ys) (vs ++ ws)
  | _, _, _, _, .nil, s => s
  | _, _, _, _, .cons r t, s => .cons r (Reps.append t s)
theorem Reps.take : ∀ {xs : List D} {vs : List V} (n : Nat), Reps g F xs vs → Reps g F (xs.take n) (vs.take n)
  | _, _, 0, _ => .nil
  | _, _, _ + 1, .nil => .nil
  | _, _, n + 1, .cons r t => .cons r (Reps.take n t)
theorem Reps.drop : ∀ {xs : List D} {vs : List V} (n : Nat), Reps g F xs vs → Reps g F (xs.drop n) (vs.drop n)
  | _, _, 0, r => r
  | _, _, _ + 1, .nil => .nil
  | _, _, n + 1, .cons _ t => Reps.drop n t
theorem Reps.set {x : D} {v : V} (r : Rep g F x v) : ∀ {xs : List D} {vs : List V} (i : Nat), Reps g F xs vs → Reps g F (xs.set i x) (vs.set i v)
  | _, _, _, .nil => .nil
  | _, _, 0, .cons _ t => .cons r t
  | _, _, i + 1, .cons q t => .cons q (Reps.set r i t)
theorem Reps.dropLast : ∀ {xs : List D} {vs : List V}, Reps g F xs vs → Reps g F xs.dropLast vs.dropLast
  | _, _, .nil => .nil
  | _, _, .cons _ .nil => .nil
  | _, _, .cons r (.cons r2 t) => .cons r (Reps.dropLast (.cons r2 t))
theorem Reps.cut {xs : List D} {vs : List V} (lo hi : Option Int) (r : Reps g F xs vs) : Reps g F (cutD xs lo hi) (cutV vs lo hi) := by
  unfold cutD cutV
  rw [r.length]
  exact (r.drop _).take _
theorem Reps.rep {xs : List D} {vs : List V} (r : Reps g F xs vs) : ∀ n : Nat, Reps g F (List.replicate n xs).flatten (List.replicate n vs).flatten
  | 0 => .nil
  | n + 1 => by
    rw [List.replicate_succ, List.replicate_succ, List.flatten_cons, List.flatten_cons]
    exact r.append (Reps.rep r n)
theorem Reps.ints : ∀ {xs : List D} {vs : List V} {l : List Int}, Reps g F xs vs → intsD xs = some l → vs = l.map V.int
  | _, _, _, .nil, e => by cases e; rfl
  | .int i :: xs, _, l, .cons r t, e => by
    cases r
    have e2 : (intsD xs).map (fun l => i :: l) = some l := e
    cases q : intsD xs with
    | none => rw [q] at e2; cases e2
    | some m =>
      rw [q] at e2
      cases e2
      rw [Reps.ints t q]; rfl
  | .non :: _, _, _, .cons _ _, e => nomatch e
  | .bl _ :: _, _, _, .cons _ _, e => nomatch e
  | .str _ :: _, _, _, .cons _ _, e => nomatch e
  | .tup _ :: _, _, _, .cons _ _, e => nomatch e
  | .lst _ :: _, _, _, .cons _ _, e => nomatch e
  | .exc _ :: _, _, _, .cons _ _, e => nomatch e
  | .scr _ :: _, _, _, .cons _ _, e => nomatch e
theorem Reps.bols : ∀ {xs : List D} {vs : List V} {l : List Bool}, Reps g F xs vs → bolsD xs = some l → vs = l.map V.bl
  | _, _, _, .nil, e => by cases e; rfl
  | .bl i :: xs, _, l, .cons r t, e => by
    cases r
    have e2 : (bolsD xs).map (fun l => i :: l) = some l := e
    cases q : bolsD xs with
    | none => rw [q] at e2; cases e2
    | some m =>
      rw [q] at e2
      cases e2
      rw [Reps.bols t q]; rfl
  | .non :: _, _, _, .cons _ _, e => nomatch e
  | .int _ :: _, _, _, .cons _ _, e => nomatch e
  | .str _ :: _, _, _, .cons _ _, e => nomatch e
  | .tup _ :: _, _, _, .cons _ _, e => nomatch e
  | .lst _ :: _, _, _, .cons _ _, e => nomatch e
  | .exc _ :: _, _, _, .cons _ _, e => nomatch e
  | .scr _ :: _, _, _, .cons _ _, e => nomatch e
end

/-! ### what a live cell holds -/
def ObR (g : Gx) (F : Hp) : D → HO → Prop
  | .lst ds, .lst vs => Reps g F ds vs
  | _, _ => False
theorem ObR.mono {g : Gx} {F F' : Hp} (h : Le F F') {x : D} {o : HO} (r : ObR g F x o) : ObR g F' x o := by
  cases x <;> cases o <;> first | exact r.elim | exact Reps.mono h r
theorem ObR.rep {g : Gx} {F : Hp} {x : D} {o : HO} {a : Addr} (r : ObR g F x o) (h : F a = some o) : Rep g F x (.ref a) := by
  cases x <;> cases o <;> first | exact r.elim | exact .lst h r
def ClOk (g : Gx) (F H : Hp) (a : Addr) : Cl → Prop
  | .dead => True
  | .live x => F a = none ∧ ∃ o, H a = some o ∧ ObR g F x o
  | .fz x => Rep g F x (.ref a)
/-- the store's part of the heap -/
structure Rel (g : Gx) (F : Hp) (ρ : List Addr) (G : Hp) (S : Sto) (H : Hp) : Prop where
  sub : Le F H
  oth : ∀ a o, G a = some o → H a = some o ∧ F a = none ∧ ∀ (j : Nat) (x : D), S[j]? = some (.live x) → ρ[j]? ≠ some a
  cell : ∀ (j : Nat) (k : Cl), S[j]? = some k → ∃ a, ρ[j]? = some a ∧ ClOk g F H a k
  inj : ∀ (i j : Nat) (a : Addr) (x y : D), S[i]? = some (.live x) → S[j]? = some (.live y) → ρ[i]? = some a → ρ[j]? = some a → i = j
  len : ρ.length = S.length
def SlV (g : Gx) (F : Hp) (ρ : List Addr) : Sl → V → Prop
  | .un, _ => False
  | .d x, v => Rep g F x v
  | .ref j, v => ∃ a, ρ[j]? = some a ∧ v = .ref a
theorem SlV.mono {g : Gx} {F F' : Hp} {ρ : List Addr} (h : Le F F') {s : Sl} {v : V} (r : SlV g F ρ s v) : SlV g F' ρ s v := by
  cases s with
  | un => exact r
  | d x => exact Rep.mono h r
  | ref j => exact r
/-- the frame -/
structure Fok (g : Gx) (F : Hp) (ρ : List Addr) (fr : Fr) (σ : L2.St) : Prop where
  len : fr.length = σ.length
  at_ : ∀ (i : Nat) (s : Sl), fr[i]? = some s → s = .un ∨ ∃ v, σ[i]? = some (some v) ∧ SlV g F ρ s v
theorem Fok.mono {g : Gx} {F F' : Hp} {ρ : List Addr} {fr : Fr} {σ : L2.St} (h : Le F F') (k : Fok g F ρ fr σ) : Fok g F' ρ fr σ :=
  ⟨k.len, fun i s e => (k.at_ i s e).imp id fun ⟨v, h1, h2⟩ => ⟨v, h1, h2.mono h⟩⟩

section
variable {g : Gx} {F G H : Hp} {ρ : List Addr} {S : Sto} {p : Addr} {o : HO}
theorem Rel.fresh (r : Rel g F ρ G S H) (h : H p = none) : F p = none ∧ G p = none ∧ ∀ (j : Nat) (x : D), S[j]? = some (.live x) → ρ[j]? ≠ some p := by
  refine ⟨?_, ?_, fun j x e z => ?_⟩
  · cases q : F p with
    | none => rfl
    | some u => rw [r.sub p u q] at h; cases h
  · cases q : G p with
    | none => rfl
    | some u => rw [(r.oth p u q).1] at h; cases h
  · obtain ⟨a, e1, _, u, e2, _⟩ := r.cell j _ e
    rw [e1] at z; cases z
    rw [h] at e2; cases e2
/-- a new object, frozen at once -/
theorem Rel.newF (r : Rel g F ρ G S H) (h : H p = none) : Rel g (upd F p o) ρ G S (upd H p o) := by
  obtain ⟨f1, f2, f3⟩ := r.fresh h
  have le : Le F (upd F p o) := Le.new f1
  refine ⟨fun a u e => ?_, fun a u e => ?_, fun j k e => ?_, r.inj, r.len⟩
  · by_cases ha : a = p
    · subst ha; rw [upd_same] at e ⊢; exact e
    · rw [upd_ne ha] at e ⊢; exact r.sub a u e
  · have ha : a ≠ p := fun z => by rw [z, f2] at e; cases e
    obtain ⟨h1, h2, h3⟩ := r.oth a u e
    rw [upd_ne ha, upd_ne ha]
    exact ⟨h1, h2, h3⟩
  · obtain ⟨a, e1, q⟩ := r.cell j k e
    refine ⟨a, e1, ?_⟩
    cases k with
    | dead => trivial
    | live x =>
      have ha : a ≠ p := fun z => f3 j x e (by rw [← z]; exact e1)
      obtain ⟨q1, u, q2, q3⟩ := q
      exact ⟨by rw [upd_ne ha]; exact q1, u, by rw [upd_ne ha]; exact q2, q3.mono le⟩
    | fz x => exact Rep.mono le q
/-- a new object that is no one's -/
theorem Rel.newG (r : Rel g F ρ G S H) (h : H p = none) : Rel g F ρ (upd G p o) S (upd H p o) := by
  obtain ⟨f1, f2, f3⟩ := r.fresh h
  have hp : ∀ a u, H a = some u → a ≠ p := fun a u e z => by rw [z, h] at e; cases e
  refine ⟨fun a u e => ?_, fun a u e => ?_, fun j k e => ?_, r.inj, r.len⟩
  · rw [upd_ne (hp a u (r.sub a u e))]; exact r.sub a u e
  · by_cases ha : a = p
    · subst ha
      rw [upd_same] at e
      cases e
      exact ⟨upd_same, f1, f3⟩
    · rw [upd_ne ha] at e ⊢
      exact r.oth a u e
  · obtain ⟨a, e1, q⟩ := r.cell j k e
    refine ⟨a, e1, ?_⟩
    cases k with
    | dead => trivial
    | live x =>
      obtain ⟨q1, u, q2, q3⟩ := q
      exact ⟨q1, u, by rw [upd_ne (hp a u q2)]; exact q2, q3⟩
    | fz x => exact q
/-- .. changed -/
theorem Rel.setG {u : HO} (r : Rel g F ρ G S H) (h : G p = some u) : Rel g F ρ (upd G p o) S (upd H p o) := by
  obtain ⟨h1, h2, h3⟩ := r.oth p u h
  refine ⟨fun a w e => ?_, fun a w e => ?_, fun j k e => ?_, r.inj, r.len⟩
  · have ha : a ≠ p := fun z => by rw [z, h2] at e; cases e
    rw [upd_ne ha]; exact r.sub a w e
  · by_cases ha : a = p
    · subst ha
      rw [upd_same] at e
      cases e
      exact ⟨upd_same, h2, h3⟩
    · rw [upd_ne ha] at e ⊢
      exact r.oth a w e
  · obtain ⟨a, e1, q⟩ := r.cell j k e
    refine ⟨a, e1, ?_⟩
    cases k with
    | dead => trivial
    | live x =>
      have ha : a ≠ p := fun z => h3 j x e (by rw [← z]; exact e1)
      obtain ⟨q1, u, q2, q3⟩ := q
      exact ⟨q1, u, by rw [upd_ne ha]; exact q2, q3⟩
    | fz x => exact q
/-- no longer guarded: frozen -/
theorem Rel.frzG (r : Rel g F ρ G S H) (h : G p = some o) {G' : Hp} (hG : ∀ a u, G' a = some u → a ≠ p ∧ G a = some u) : Rel g (upd F p o) ρ G' S H := by
  obtain ⟨h1, h2, h3⟩ := r.oth p o h
  have le : Le F (upd F p o) := Le.new h2
  refine ⟨fun a w e => ?_, fun a w e => ?_, fun j k e => ?_, r.inj, r.len⟩
  · by_cases ha : a = p
    · subst ha; rw [upd_same] at e; cases e; exact h1
    · rw [upd_ne ha] at e; exact r.sub a w e
  · obtain ⟨ha, e⟩ := hG a w e
    rw [upd_ne ha]
    exact r.oth a w e
  · obtain ⟨a, e1, q⟩ := r.cell j k e
    refine ⟨a, e1, ?_⟩
    cases k with
    | dead => trivial
    | live x =>
      have ha : a ≠ p := fun z => h3 j x e (by rw [← z]; exact e1)
      obtain ⟨q1, u, q2, q3⟩ := q
      exact ⟨by rw [upd_ne ha]; exact q1, u, q2, q3.mono le⟩
    | fz x => exact Rep.mono le q
/-- less is guarded -/
theorem Rel.lessG (r : Rel g F ρ G S H) {G' : Hp} (hG : Le G' G) : Rel g F ρ G' S H := ⟨r.sub, fun a o e => r.oth a o (hG a o e), r.cell, r.inj, r.len⟩
/-- a cell is written -/
theorem Rel.write {j : Nat} {x y : D} {a : Addr} (r : Rel g F ρ G S H) (hj : S[j]? = some (.live x)) (ha : ρ[j]? = some a) (q : ObR g F y o) : Rel g F ρ G (S.set j (.live y)) (upd H a o) := by
  obtain ⟨a', e1, c1, u, c2, c3⟩ := r.cell j _ hj
  rw [ha] at e1; cases e1
  have lj : j < S.length := (List.getElem?_eq_some_iff.mp hj).1
  have old : ∀ (i : Nat) (z : D), (S.set j (.live y))[i]? = some (.live z) → ∃ z', S[i]? = some (.live z') := fun i z e => by
    by_cases hi : j = i
    · subst hi; exact ⟨x, hj⟩
    · rw [List.getElem?_set_ne hi] at e; exact ⟨z, e⟩
  refine ⟨fun b w e => ?_, fun b w e => ?_, fun i k e => ?_, fun i i' b z z' h1 h2 h3 h4 => ?_, by simpa using r.len⟩
  · have hb : b ≠ a := fun z => by rw [z, c1] at e; cases e
    rw [upd_ne hb]; exact r.sub b w e
  · obtain ⟨h1, h2, h3⟩ := r.oth b w e
    have hb : b ≠ a := fun z => h3 j x hj (by rw [z]; exact ha)
    refine ⟨by rw [upd_ne hb]; exact h1, h2, fun i z ei => ?_⟩
    obtain ⟨z', ez⟩ := old i z ei
    exact h3 i z' ez
  · by_cases hi : j = i
    · subst hi
      rw [List.getElem?_set_self lj] at e
      cases e
      exact ⟨a, ha, c1, o, upd_same, q⟩
    · rw [List.getElem?_set_ne hi] at e
      obtain ⟨b, e1, qb⟩ := r.cell i k e
      refine ⟨b, e1, ?_⟩
      cases k with
      | dead => trivial
      | live z =>
        have hb : b ≠ a := fun w => hi (r.inj j i a x z hj e ha (by rw [← w]; exact e1))
        obtain ⟨q1, w, q2, q3⟩ := qb
        exact ⟨q1, w, by rw [upd_ne hb]; exact q2, q3⟩
      | fz z => exact qb
  · obtain ⟨_, e1⟩ := old i z h1
    obtain ⟨_, e2⟩ := old i' z' h2
    exact r.inj i i' b _ _ e1 e2 h3 h4
/-- a cell is frozen -/
theorem Rel.freeze {j : Nat} {x : D} (r : Rel g F ρ G S H) (hj : S[j]? = some (.live x)) : ∃ a F', ρ[j]? = some a ∧ Le F F' ∧ Rel g F' ρ G (S.set j (.fz x)) H ∧ Rep g F' x (.ref a) := by
  obtain ⟨a, ha, c1, u, c2, c3⟩ := r.cell j _ hj
  have le : Le F (upd F a u) := Le.new c1
  have lj : j < S.length := (List.getElem?_eq_some_iff.mp hj).1
  have old : ∀ (i : Nat) (z : D), (S.set j (.fz x))[i]? = some (.live z) → i ≠ j ∧ S[i]? = some (.live z) := fun i z e => by
    by_cases hi : j = i
    · subst hi
      rw [List.getElem?_set_self lj] at e; cases e
    · rw [List.getElem?_set_ne hi] at e; exact ⟨fun z => hi z.symm, e⟩
  refine ⟨a, upd F a u, ha, le, ⟨fun b w e => ?_, fun b w e => ?_, fun i k e => ?_, fun i i' b z z' h1 h2 h3 h4 => ?_, by simpa using r.len⟩, (c3.mono le).rep upd_same⟩
  · by_cases hb : b = a
    · subst hb; rw [upd_same] at e; cases e; exact c2
    · rw [upd_ne hb] at e; exact r.sub b w e
  · obtain ⟨h1, h2, h3⟩ := r.oth b w e
    have hb : b ≠ a := fun z => h3 j x hj (by rw [z]; exact ha)
    refine ⟨h1, by rw [upd_ne hb]; exact h2, fun i z ei => h3 i z (old i z ei).2⟩
  · by_cases hi : j = i
    · subst hi
      rw [List.getElem?_set_self lj] at e
      cases e
      exact ⟨a, ha, (c3.mono le).rep upd_same⟩
    · rw [List.getElem?_set_ne hi] at e
      obtain ⟨b, e1, qb⟩ := r.cell i k e
      refine ⟨b, e1, ?_⟩
      cases k with
      | dead => trivial
      | live z =>
        have hb : b ≠ a := fun w => hi (r.inj j i a x z hj e ha (by rw [← w]; exact e1))
        obtain ⟨q1, w, q2, q3⟩ := qb
        exact ⟨by rw [upd_ne hb]; exact q1, w, q2, q3.mono le⟩
      | fz z => exact Rep.mono le qb
  · exact r.inj i i' b _ _ (old i z h1).2 (old i' z' h2).2 h3 h4
/-- a cell gets a new object that was guarded -/
theorem Rel.bind {j : Nat} {x : D} (r : Rel g F ρ (upd G p o) S H) (hp : G p = none) (hj : j < S.length) (q : ObR g F x o) : Rel g F (ρ.set j p) G (S.set j (.live x)) H := by
  obtain ⟨h1, h2, h3⟩ := r.oth p o upd_same
  have old : ∀ (i : Nat) (z : Cl), i ≠ j → (S.set j (.live x))[i]? = some z → S[i]? = some z := fun i z hi e => by
    rw [List.getElem?_set_ne (fun w => hi w.symm)] at e; exact e
  have oldr : ∀ (i : Nat), i ≠ j → (ρ.set j p)[i]? = ρ[i]? := fun i hi => List.getElem?_set_ne (fun w => hi w.symm)
  have newr : (ρ.set j p)[j]? = some p := List.getElem?_set_self (by have := r.len; omega)
  refine ⟨r.sub, fun a u e => ?_, fun i k e => ?_, fun i i' b z z' e1 e2 e3 e4 => ?_, by simpa using r.len⟩
  · have ha : a ≠ p := fun z => by rw [z, hp] at e; cases e
    obtain ⟨g1, g2, g3⟩ := r.oth a u (by rw [upd_ne ha]; exact e)
    refine ⟨g1, g2, fun i z ei => ?_⟩
    by_cases hi : i = j
    · subst hi
      rw [newr]
      exact fun w => ha (Option.some.inj w).symm
    · rw [oldr i hi]
      exact g3 i z (old i _ hi ei)
  · by_cases hi : i = j
    · subst hi
      rw [List.getElem?_set_self hj] at e
      cases e
      exact ⟨p, newr, h2, o, h1, q⟩
    · obtain ⟨a, e1, qa⟩ := r.cell i k (old i k hi e)
      exact ⟨a, by rw [oldr i hi]; exact e1, qa⟩
  · by_cases hi : i = j
    · by_cases hi' : i' = j
      · rw [hi, hi']
      · subst hi
        rw [newr] at e3; cases e3
        rw [oldr i' hi'] at e4
        exact absurd e4 (h3 i' z' (old i' _ hi' e2))
    · by_cases hi' : i' = j
      · subst hi'
        rw [newr] at e4; cases e4
        rw [oldr i hi] at e3
        exact absurd e3 (h3 i z (old i _ hi e1))
      · rw [oldr i hi] at e3
        rw [oldr i' hi'] at e4
        exact r.inj i i' b z z' (old i _ hi e1) (old i' _ hi' e2) e3 e4
/-- cells are dropped -/
theorem Rel.take (r : Rel g F ρ G S H) (n : Nat) : Rel g F (ρ.take n) G (S.take n) H := by
  have e1 : ∀ (i : Nat) (z : Cl), (S.take n)[i]? = some z → i < n ∧ S[i]? = some z := fun i z e => by
    rw [List.getElem?_take] at e
    split at e
    · exact ⟨by assumption, e⟩
    · cases e
  have e2 : ∀ (i : Nat), i < n → (ρ.take n)[i]? = ρ[i]? := fun i hi => by rw [List.getElem?_take, if_pos hi]
  have e3 : ∀ (i : Nat) (a : Addr), (ρ.take n)[i]? = some a → ρ[i]? = some a := fun i a e => by
    rw [List.getElem?_take] at e
    split at e
    · exact e
    · cases e
  refine ⟨r.sub, fun a u e => ?_, fun i k e => ?_, fun i i' b z z' q1 q2 q3 q4 => r.inj i i' b z z' (e1 i _ q1).2 (e1 i' _ q2).2 (e3 _ _ q3) (e3 _ _ q4), by rw [List.length_take, List.length_take, r.len]⟩
  · obtain ⟨h1, h2, h3⟩ := r.oth a u e
    exact ⟨h1, h2, fun j x ej z => h3 j x (e1 j _ ej).2 (e3 _ _ z)⟩
  · obtain ⟨hi, q⟩ := e1 i k e
    obtain ⟨a, q1, q2⟩ := r.cell i k q
    exact ⟨a, by rw [e2 i hi]; exact q1, q2⟩
/-- dead cells come -/
theorem Rel.more (r : Rel g F ρ G S H) (m : Nat) : Rel g F (ρ ++ List.replicate m 0) G (S ++ List.replicate m .dead) H := by
  have hl := r.len
  have e1 : ∀ (i : Nat) (x : D), (S ++ List.replicate m Cl.dead)[i]? = some (.live x) → i < S.length ∧ S[i]? = some (.live x) := fun i x e => by
    by_cases hi : i < S.length
    · rw [List.getElem?_append_left hi] at e; exact ⟨hi, e⟩
    · rw [List.getElem?_append_right (by omega), List.getElem?_replicate] at e
      split at e <;> cases e
  have e2 : ∀ (i : Nat), i < S.length → (ρ ++ List.replicate m 0)[i]? = ρ[i]? := fun i hi => List.getElem?_append_left (by omega)
  refine ⟨r.sub, fun a u e => ?_, fun i k e => ?_, fun i i' b z z' q1 q2 q3 q4 => ?_, by simp [hl]⟩
  · obtain ⟨h1, h2, h3⟩ := r.oth a u e
    refine ⟨h1, h2, fun j x ej => ?_⟩
    obtain ⟨l, ej⟩ := e1 j x ej
    rw [e2 j l]
    exact h3 j x ej
  · by_cases hi : i < S.length
    · rw [List.getElem?_append_left hi] at e
      obtain ⟨a, q1, q2⟩ := r.cell i k e
      exact ⟨a, by rw [e2 i hi]; exact q1, q2⟩
    · rw [List.getElem?_append_right (by omega), List.getElem?_replicate] at e
      split at e
      · cases e
        exact ⟨0, by rw [List.getElem?_append_right (by omega), List.getElem?_replicate, if_pos (by omega)], trivial⟩
      · cases e
  · obtain ⟨l1, q1⟩ := e1 i z q1
    obtain ⟨l2, q2⟩ := e1 i' z' q2
    rw [e2 i l1] at q3
    rw [e2 i' l2] at q4
    exact r.inj i i' b z z' q1 q2 q3 q4
end
end Cm

/-! expressions: the text does what the evaluator says -/
namespace Cm
open PySem PySem.Spec PyProof.Rows L2

theorem peImp {X : Cx} {e : Expr} {t t' : TE} (h : PE X e t) (hi : ∀ σ H Q, t' σ H Q → t σ H Q) : PE X e t' := ⟨fun pins s σ H Q I q => h.run pins s σ H Q I (hi σ H Q q)⟩
theorem ptImp {X : Cx} {e : Expr} {t t' : TT} (h : PT X e t) (hi : ∀ σ H Q, t' σ H Q → t σ H Q) : PT X e t' := ⟨fun pins s σ H Q I q => h.run pins s σ H Q I (hi σ H Q q)⟩
theorem pwImp {X : Cx} {e : Expr} {t t' : TT} (h : PW X e t) (hi : ∀ σ H Q, t' σ H Q → t σ H Q) : PW X e t' := ⟨fun wh pins s σ H Q I q => h.run wh pins s σ H Q I (hi σ H Q q)⟩
theorem paImp {X : Cx} {e : List Expr} {t t' : TA} (h : PA X e t) (hi : ∀ σ H Q, t' σ H Q → t σ H Q) : PA X e t' := ⟨fun pos pins s σ H Q I q => h.run pos pins s σ H Q I (hi σ H Q q)⟩

inductive SlVs (g : Gx) (F : Hp) (ρ : List Addr) : List Sl → List V → Prop
  | nil : SlVs g F ρ [] []
  | cons {s : Sl} {v : V} {l : List Sl} {vs : List V} : SlV g F ρ s v → SlVs g F ρ l vs → SlVs g F ρ (s :: l) (v :: vs)
theorem SlVs.mono {g : Gx} {F F' : Hp} {ρ : List Addr} (h : Le F F') : ∀ {l : List Sl} {vs : List V}, SlVs g F ρ l vs → SlVs g F' ρ l vs
  | _, _, .nil => .nil
  | _, _, .cons r t => .cons (r.mono h) (SlVs.mono h t)
theorem SlVs.length {g : Gx} {F : Hp} {ρ : List Addr} : ∀ {l : List Sl} {vs : List V}, SlVs g F ρ l vs → l.length = vs.length
  | _, _, .nil => rfl
  | _, _, .cons _ t => congrArg Nat.succ (SlVs.length t)
theorem SlVs.dat {g : Gx} {F : Hp} {ρ : List Addr} : ∀ {l : List Sl} {vs : List V} {xs : List D}, SlVs g F ρ l vs → datL l = some xs → Reps g F xs vs
  | _, _, _, .nil, e => by cases e; exact .nil
  | .d x :: l, _, xs, .cons r t, e => by
    have e2 : (datL l).map (fun l => x :: l) = some xs := e
    cases q : datL l with
    | none => rw [q] at e2; cases e2
    | some m =>
      rw [q] at e2
      cases e2
      exact .cons r (SlVs.dat t q)
  | .un :: _, _, _, .cons r _, _ => r.elim
  | .ref _ :: _, _, _, .cons _ _, e => nomatch e

/-- a thing read where it stands -/
def Pk (g : Gx) (F H : Hp) : D → V → Prop
  | .lst ds, v => ∃ a vs, v = .ref a ∧ H a = some (.lst vs) ∧ Reps g F ds vs
  | x, v => Rep g F x v
section
variable {g : Gx} {F G H : Hp} {ρ : List Addr} {S : Sto}
theorem Rep.pk {x : D} {v : V} (h : Le F H) (r : Rep g F x v) : Pk g F H x v := by
  cases r with
  | lst q r => exact ⟨_, _, rfl, h _ _ q, r⟩
  | non => exact .non
  | bl b => exact .bl b
  | int i => exact .int i
  | str x => exact .str x
  | tup q r => exact .tup q r
  | exc q => exact .exc q
  | scr q => exact .scr q
theorem peek_ok {s : Sl} {v : V} {x : D} (R : Rel g F ρ G S H) (hs : SlV g F ρ s v) (e : peek S s = some x) : Pk g F H x v := by
  cases s with
  | un => exact hs.elim
  | d y =>
    cases (show some y = some x from e)
    exact Rep.pk R.sub hs
  | ref j =>
    obtain ⟨a, ha, rfl⟩ := hs
    have e2 : (match S[j]? with
      | some (.live x) => some x
      | some (.fz x) => some x
      | _ => none) = some x := e
    cases q : S[j]? with
    | none => rw [q] at e2; cases e2
    | some k =>
      rw [q] at e2
      obtain ⟨a', ha', ck⟩ := R.cell j k q
      rw [ha] at ha'; cases ha'
      cases k with
      | dead => cases e2
      | live y =>
        cases (show some y = some x from e2)
        obtain ⟨_, o, h1, h2⟩ := ck
        cases x <;> cases o <;> first | exact h2.elim | exact ⟨_, _, rfl, h1, h2⟩
      | fz y =>
        cases (show some y = some x from e2)
        exact Rep.pk R.sub ck
inductive Pks (g : Gx) (F H : Hp) : List D → List V → Prop
  | nil : Pks g F H [] []
  | cons {x : D} {v : V} {xs : List D} {vs : List V} : Pk g F H x v → Pks g F H xs vs → Pks g F H (x :: xs) (v :: vs)
theorem peekL_ok (R : Rel g F ρ G S H) : ∀ {l : List Sl} {vs : List V} {xs : List D}, SlVs g F ρ l vs → peekL S l = some xs → Pks g F H xs vs
  | _, _, _, .nil, e => by cases e; exact .nil
  | s :: l, _, xs, .cons r t, e => by
    have e2 : (match peek S s with
      | some x => (peekL S l).map fun l => x :: l
      | none => none) = some xs := e
    cases q : peek S s with
    | none => rw [q] at e2; cases e2
    | some x =>
      rw [q] at e2
      have e3 : (peekL S l).map (fun l => x :: l) = some xs := e2
      cases q2 : peekL S l with
      | none => rw [q2] at e3; cases e3
      | some m =>
        rw [q2] at e3
        cases e3
        exact .cons (peek_ok R r q) (peekL_ok R t q2)
end

section
variable (g : Gx) (L : Lw) (c : Ce) (W : WX)
/-- what is wanted where it raises -/
def PoX (F : Hp) (ρ : List Addr) (G : Hp) (σ : L2.St) (S' : Sto) : Xr → Prop
  | .rz k => ∀ F' H', Le F F' → Rel g F' ρ G S' H' → W (.ref (g.C k)) none σ H'
  | _ => True
def rdE (e : E) : TE := fun σ H Q => ∃ F ρ G fr S r S', Rel g F ρ G S H ∧ Fok g F ρ fr σ ∧ evE L c e fr S = some (r, S') ∧ PoX g W F ρ G σ S' r ∧
  ∀ s, r = .v s → ∀ F' H' v, Le F F' → Rel g F' ρ G S' H' → SlV g F' ρ s v → Q v H'
def rdA (e : E) : TA := fun σ H Q => ∃ F ρ G fr S r S', Rel g F ρ G S H ∧ Fok g F ρ fr σ ∧ evE L c e fr S = some (r, S') ∧ PoX g W F ρ G σ S' r ∧
  ∀ l, r = .vs l → ∀ F' H' vs, Le F F' → Rel g F' ρ G S' H' → SlVs g F' ρ l vs → Q vs H'
def rdT (e : E) : TT := fun σ H Q => ∃ F ρ G fr S r S', Rel g F ρ G S H ∧ Fok g F ρ fr σ ∧ evE L c e fr S = some (r, S') ∧ PoX g W F ρ G σ S' r ∧
  ∀ s, r = .v s → ∃ b, s = .d (.bl b) ∧ ∀ F' H', Le F F' → Rel g F' ρ G S' H' → Q b H'
end

section
variable {g : Gx} {L : Lw} {c : Ce} {W : WX} {F G H : Hp} {ρ : List Addr} {S S' : Sto} {fr : Fr} {σ : L2.St} {r : Xr}
theorem PoX.mono {F1 : Hp} (h : PoX g W F ρ G σ S' r) (le : Le F F1) : PoX g W F1 ρ G σ S' r := by
  cases r with
  | rz k => exact fun F' H' l R => h F' H' (le.trans l) R
  | v s => trivial
  | vs l => trivial
/-- one expression, and what is done with it -/
theorem stepE {a : E} {k : Sl → Sto → Option (Xr × Sto)} {Q : VK} (R : Rel g F ρ G S H) (Fo : Fok g F ρ fr σ) (h : bnd (evE L c a fr S) k = some (r, S')) (hx : PoX g W F ρ G σ S' r)
    (hk : ∀ s S1 F1 H1 v, k s S1 = some (r, S') → Le F F1 → Rel g F1 ρ G S1 H1 → SlV g F1 ρ s v → Q v H1) : rdE g L c W a σ H Q := by
  unfold bnd at h
  split at h
  · rename_i s S1 e
    exact ⟨F, ρ, G, fr, S, .v s, S1, R, Fo, e, trivial, fun s' es F1 H1 v le R1 sv => by cases es; exact hk s S1 F1 H1 v h le R1 sv⟩
  · rename_i n S1 e
    cases h
    exact ⟨F, ρ, G, fr, S, .rz n, _, R, Fo, e, hx, fun s' es => by cases es⟩
  · cases h
theorem stepL {a : E} {k : List Sl → Sto → Option (Xr × Sto)} {Q : List V → Hp → Prop} (R : Rel g F ρ G S H) (Fo : Fok g F ρ fr σ) (h : bndL (evE L c a fr S) k = some (r, S')) (hx : PoX g W F ρ G σ S' r)
    (hk : ∀ l S1 F1 H1 vs, k l S1 = some (r, S') → Le F F1 → Rel g F1 ρ G S1 H1 → SlVs g F1 ρ l vs → Q vs H1) : rdA g L c W a σ H Q := by
  unfold bndL at h
  split at h
  · rename_i s S1 e
    exact ⟨F, ρ, G, fr, S, .vs s, S1, R, Fo, e, trivial, fun s' es F1 H1 v le R1 sv => by cases es; exact hk s S1 F1 H1 v h le R1 sv⟩
  · rename_i n S1 e
    cases h
    exact ⟨F, ρ, G, fr, S, .rz n, _, R, Fo, e, hx, fun s' es => by cases es⟩
  · cases h
theorem stepT {a : E} {k : Bool → Sto → Option (Xr × Sto)} {Q : Bool → Hp → Prop} (R : Rel g F ρ G S H) (Fo : Fok g F ρ fr σ) (h : tst (evE L c a fr S) k = some (r, S')) (hx : PoX g W F ρ G σ S' r)
    (hk : ∀ b S1 F1 H1, k b S1 = some (r, S') → Le F F1 → Rel g F1 ρ G S1 H1 → Q b H1) : rdT g L c W a σ H Q := by
  unfold tst at h
  split at h
  · rename_i b S1 e
    exact ⟨F, ρ, G, fr, S, .v (.d (.bl b)), S1, R, Fo, e, trivial, fun s' es => by cases es; exact ⟨b, rfl, fun F1 H1 le R1 => hk b S1 F1 H1 h le R1⟩⟩
  · rename_i n S1 e
    cases h
    exact ⟨F, ρ, G, fr, S, .rz n, _, R, Fo, e, hx, fun s' es => by cases es⟩
  · cases h
/-- .. a value that must be a truth -/
theorem stepB {a : E} {k : Bool → Sto → Option (Xr × Sto)} {Q : VK} (R : Rel g F ρ G S H) (Fo : Fok g F ρ fr σ) (h : tst (evE L c a fr S) k = some (r, S')) (hx : PoX g W F ρ G σ S' r)
    (hk : ∀ b S1 F1 H1, k b S1 = some (r, S') → Le F F1 → Rel g F1 ρ G S1 H1 → Q (.bl b) H1) : rdE g L c W a σ H Q := by
  unfold tst at h
  split at h
  · rename_i b S1 e
    exact ⟨F, ρ, G, fr, S, .v (.d (.bl b)), S1, R, Fo, e, trivial, fun s' es F1 H1 v le R1 sv => by
      cases es
      cases (show Rep g F1 (.bl b) v from sv)
      exact hk b S1 F1 H1 h le R1⟩
  · rename_i n S1 e
    cases h
    exact ⟨F, ρ, G, fr, S, .rz n, _, R, Fo, e, hx, fun s' es => by cases es⟩
  · cases h
theorem step2 {a b : E} {k : Sl → Sl → Sto → Option (Xr × Sto)} {Q : V → V → Hp → Prop} (R : Rel g F ρ G S H) (Fo : Fok g F ρ fr σ) (h : bnd (evE L c a fr S) (fun s S1 => bnd (evE L c b fr S1) fun t S2 => k s t S2) = some (r, S')) (hx : PoX g W F ρ G σ S' r)
    (hk : ∀ s t S2 F2 H2 x y, k s t S2 = some (r, S') → Le F F2 → Rel g F2 ρ G S2 H2 → SlV g F2 ρ s x → SlV g F2 ρ t y → Q x y H2) : rdE g L c W a σ H fun x H1 => rdE g L c W b σ H1 fun y H2 => Q x y H2 :=
  stepE R Fo h hx fun s S1 F1 H1 x h1 le R1 sx => stepE R1 (Fo.mono le) h1 (hx.mono le) fun t S2 F2 H2 y h2 le2 R2 sy => hk s t S2 F2 H2 x y h2 (le.trans le2) R2 (sx.mono le2) sy

/-! ### names, constants -/
variable {X : Cx}
theorem re_var {i : Nat} {x : Str} {pos : Pos} (h : PE X (.Name x pos) (tVar i)) : PE X (.Name x pos) (rdE g L c W (.var i)) := peImp h fun σ H Q q => by
  obtain ⟨F, ρ, G, fr, S, r, S', R, Fo, e, hx, hq⟩ := q
  have e2 : (match fr[i]? with
    | some (.d x) => some (Xr.v (.d x), S)
    | some (.ref j) => (match S[j]? with
      | some (.live x) => some (.v (.d x), S.set j (.fz x))
      | some (.fz x) => some (.v (.d x), S)
      | _ => none)
    | _ => none) = some (r, S') := e
  cases q : fr[i]? with
  | none => rw [q] at e2; cases e2
  | some s =>
    rw [q] at e2
    rcases Fo.at_ i s q with rfl | ⟨v, h1, h2⟩
    · cases e2
    · cases s with
      | un => cases e2
      | d y =>
        cases e2
        exact ⟨v, h1, hq _ rfl F H v (Le.refl F) R h2⟩
      | ref j =>
        obtain ⟨a, ha, rfl⟩ := h2
        have e3 : (match S[j]? with
          | some (.live x) => some (Xr.v (.d x), S.set j (.fz x))
          | some (.fz x) => some (.v (.d x), S)
          | _ => none) = some (r, S') := e2
        cases q2 : S[j]? with
        | none => rw [q2] at e3; cases e3
        | some k =>
          rw [q2] at e3
          cases k with
          | dead => cases e3
          | live y =>
            cases e3
            obtain ⟨a', F', ha', le, R', rp⟩ := R.freeze q2
            rw [ha] at ha'; cases ha'
            exact ⟨_, h1, hq _ rfl F' H _ le R' rp⟩
          | fz y =>
            cases e3
            obtain ⟨a', ha', ck⟩ := R.cell j _ q2
            rw [ha] at ha'; cases ha'
            exact ⟨_, h1, hq _ rfl F H _ (Le.refl F) R ck⟩
theorem re_arg {i : Nat} {x : Str} {pos : Pos} (h : PE X (.Name x pos) (tVar i)) : PE X (.Name x pos) (rdE g L c W (.arg i)) := peImp h fun σ H Q q => by
  obtain ⟨F, ρ, G, fr, S, r, S', R, Fo, e, hx, hq⟩ := q
  have e2 : (match fr[i]? with
    | some (.d x) => some (Xr.v (.d x), S)
    | some (.ref j) => some (.v (.ref j), S)
    | _ => none) = some (r, S') := e
  cases q : fr[i]? with
  | none => rw [q] at e2; cases e2
  | some s =>
    rw [q] at e2
    rcases Fo.at_ i s q with rfl | ⟨v, h1, h2⟩
    · cases e2
    · cases s with
      | un => cases e2
      | d y =>
        cases e2
        exact ⟨v, h1, hq _ rfl F H v (Le.refl F) R h2⟩
      | ref j =>
        cases e2
        exact ⟨v, h1, hq _ rfl F H v (Le.refl F) R h2⟩
theorem re_lit {e : Expr} {x : D} {v : V} (h : PE X e (tC v)) (hr : ∀ F, Rep g F x v) : PE X e (rdE g L c W (.lit x)) := peImp h fun σ H Q q => by
  obtain ⟨F, ρ, G, fr, S, r, S', R, Fo, e, hx, hq⟩ := q
  cases (show some (Xr.v (.d x), S) = some (r, S') from e)
  exact hq _ rfl F H v (Le.refl F) R (hr F)
theorem re_int {i : Int} {j : Nat} {pos : Pos} : PE X (.Constant (.int i) j pos) (rdE g L c W (.lit (.int i))) := re_lit pe_int fun _ => .int i
theorem re_bl {b : Bool} {j : Nat} {pos : Pos} : PE X (.Constant (.bool b) j pos) (rdE g L c W (.lit (.bl b))) := re_lit pe_bl fun _ => .bl b
theorem re_non {j : Nat} {pos : Pos} : PE X (.Constant .none j pos) (rdE g L c W (.lit .non)) := re_lit pe_non fun _ => .non
theorem re_str {x : Str} {j : Nat} {pos : Pos} : PE X (.Constant (.str x) j pos) (rdE g L c W (.lit (.str x))) := re_lit pe_str fun _ => .str x

/-! ### operators -/
/-- a two-place operation on what is read -/
def r2D (g : Gx) (f : D → D → Option D) : R2 := fun x y H Q => ∃ F ρ G S dx dy d, Rel g F ρ G S H ∧ Pk g F H dx x ∧ Pk g F H dy y ∧ f dx dy = some d ∧ ∀ F' H' v, Le F F' → Rel g F' ρ G S H' → Rep g F' d v → Q v H'
theorem outD_some {S : Sto} {o : Option D} (h : outD S o = some (r, S')) : ∃ d, o = some d ∧ r = .v (.d d) ∧ S' = S := by
  cases o with
  | none => cases h
  | some d => cases h; exact ⟨d, rfl, rfl, rfl⟩
theorem outB_some {S : Sto} {o : Option Bool} (h : outB S o = some (r, S')) : ∃ d, o = some d ∧ r = .v (.d (.bl d)) ∧ S' = S := by
  cases o with
  | none => cases h
  | some d => cases h; exact ⟨d, rfl, rfl, rfl⟩
theorem pk1_some {S : Sto} {s : Sl} {f : D → Option (Xr × Sto)} (h : pk1 S s f = some (r, S')) : ∃ x, peek S s = some x ∧ f x = some (r, S') := by
  unfold pk1 at h
  split at h
  · exact ⟨_, by assumption, h⟩
  · cases h
theorem re_bin {a b : Expr} {ia ib : E} {o : Bo} {op : Operator} {pos : Pos} (ho : OpR X (binaryOp op) (r2D g (binD o))) (ha : PE X a (rdE g L c W ia)) (hb : PE X b (rdE g L c W ib)) : PE X (.BinOp a op b pos) (rdE g L c W (.bin o ia ib)) :=
  peImp (pe_op ho ha hb) fun σ H Q q => by
    obtain ⟨F, ρ, G, fr, S, r, S', R, Fo, e, hx, hq⟩ := q
    refine step2 (k := fun s t S2 => pk2 S2 s t fun x y => outD S2 (binD o x y)) R Fo e hx fun s t S2 F2 H2 x y h2 le R2 sx sy => ?_
    obtain ⟨dx, px, h3⟩ := pk1_some h2
    obtain ⟨dy, py, h4⟩ := pk1_some h3
    obtain ⟨d, h5, rfl, rfl⟩ := outD_some h4
    exact ⟨F2, ρ, G, _, dx, dy, d, R2, peek_ok R2 sx px, peek_ok R2 sy py, h5, fun F' H' v le' R' rp => hq _ rfl F' H' v (le.trans le') R' rp⟩
theorem sm_lt {i : Int} (h : smB i = true) : i.natAbs < 2 ^ 8000 := by
  unfold smB at h
  exact Nat.le_of_ble_eq_true h
theorem line_eq : sizeLine = 16777216 := sizeLine_eq
theorem op_addD (hK : X.K = g.K) : OpR X (binaryOp .Add) (r2D g (binD .add)) := by
  intro pins s σ H x y v u Q I rx ry h
  obtain ⟨F, ρ, G, S, dx, dy, d, R, px, py, e, q⟩ := h
  replace e : addD dx dy = some d := e
  have hl := line_eq
  cases dx <;> cases dy <;> first | cases e | skip
  · cases px; cases py
    exact op_add pins s σ H _ _ v u Q I rx ry ⟨_, _, rfl, rfl, q F H _ (Le.refl F) R (.int _)⟩
  · cases px with | tup p1 r1 => cases py with | tup p2 r2 =>
    rename_i xs ys a1 vs1 a2 vs2
    replace e : (if Nat.ble (xs.length + ys.length) 1000000 = true then some (D.tup (xs ++ ys)) else none) = some d := e
    split at e
    · rename_i hz
      cases e
      have hz := Nat.le_of_ble_eq_true hz
      have l1 := r1.length
      have l2 := r2.length
      refine op_catA pins s σ H _ _ v u Q I rx ry ⟨_, _, vs1, vs2, rfl, rfl, SqT.of (R.sub _ _ p1), SqT.of (R.sub _ _ p2), by omega, fun z => ?_, fun _ z => ?_, fun z1 z2 p hp => ?_⟩
      · subst z
        have z : xs = [] := List.eq_nil_of_length_eq_zero (by simpa using l1)
        subst z
        exact q F H _ (Le.refl F) R (.tup p2 r2)
      · subst z
        have z : ys = [] := List.eq_nil_of_length_eq_zero (by simpa using l2)
        subst z
        exact q F H _ (Le.refl F) R (.tup p1 (by rw [List.append_nil]; exact r1))
      · have le : Le F (upd F p (.tup (vs1 ++ vs2))) := Le.new (R.fresh hp).1
        exact q (upd F p (.tup (vs1 ++ vs2))) _ _ le (R.newF hp) (.tup upd_same ((r1.append r2).mono le))
    · cases e
  · obtain ⟨a1, vs1, rfl, p1, r1⟩ := px
    obtain ⟨a2, vs2, rfl, p2, r2⟩ := py
    rename_i xs ys
    replace e : (if Nat.ble (xs.length + ys.length) 1000000 = true then some (D.lst (xs ++ ys)) else none) = some d := e
    split at e
    · rename_i hz
      cases e
      have hz := Nat.le_of_ble_eq_true hz
      have l1 := r1.length
      have l2 := r2.length
      refine op_cat pins s σ H _ _ v u Q I rx ry ⟨_, _, vs1, vs2, rfl, rfl, p1, p2, by omega, fun p hp => ?_⟩
      have le : Le F (upd F p (.lst (vs1 ++ vs2))) := Le.new (R.fresh hp).1
      exact q (upd F p (.lst (vs1 ++ vs2))) _ _ le (R.newF hp) (.lst upd_same ((r1.append r2).mono le))
    · cases e
theorem op_subD : OpR X (binaryOp .Sub) (r2D g (binD .sub)) := by
  intro pins s σ H x y v u Q I rx ry h
  obtain ⟨F, ρ, G, S, dx, dy, d, R, px, py, e, q⟩ := h
  replace e : subD dx dy = some d := e
  cases dx <;> cases dy <;> first | cases e | skip
  cases px; cases py
  exact op_sub pins s σ H _ _ v u Q I rx ry ⟨_, _, rfl, rfl, q F H _ (Le.refl F) R (.int _)⟩
theorem op_mulD (hK : X.K = g.K) : OpR X (binaryOp .Mult) (r2D g (binD .mul)) := by
  intro pins s σ H x y v u Q I rx ry h
  obtain ⟨F, ρ, G, S, dx, dy, d, R, px, py, e, q⟩ := h
  replace e : mulD dx dy = some d := e
  have hl := line_eq
  cases dx <;> cases dy <;> first | cases e | skip
  · cases px; cases py
    rename_i i j
    replace e : (if (smB i && smB j) = true then some (D.int (i * j)) else none) = some d := e
    split at e
    · rename_i hz
      cases e
      obtain ⟨h1, h2⟩ := Bool.and_eq_true_iff.mp hz
      exact op_mulW pins s σ H _ _ v u Q I rx ry ⟨_, _, rfl, rfl, wide_mul (sm_lt h1) (sm_lt h2) (by decide) (by decide) (by decide), q F H _ (Le.refl F) R (.int _)⟩
    · cases e
  · cases px with | tup p1 r1 =>
    cases py
    rename_i xs k a1 vs1
    replace e : (if (Nat.ble 1 xs.length && Nat.ble xs.length 1000 && (decide (2 ≤ k) && decide (k ≤ 1000))) = true then some (D.tup (List.replicate k.toNat xs).flatten) else none) = some d := e
    split at e
    · rename_i hz
      cases e
      simp only [Bool.and_eq_true, decide_eq_true_eq] at hz
      obtain ⟨⟨h1, h2⟩, h3, h4⟩ := hz
      have h1 := Nat.le_of_ble_eq_true h1
      have h2 := Nat.le_of_ble_eq_true h2
      have l1 := r1.length
      refine op_repT pins s σ H _ _ v u Q I rx ry ⟨_, _, vs1, rfl, rfl, SqT.of (R.sub _ _ p1), fun z => ?_, h3, h4, by omega, fun p hp => ?_⟩
      · rw [z] at l1; simp at l1; rw [l1] at h1; simp at h1
      · have le : Le F (upd F p (.tup (List.replicate k.toNat vs1).flatten)) := Le.new (R.fresh hp).1
        exact q _ _ _ le (R.newF hp) (.tup upd_same ((r1.rep _).mono le))
    · cases e
  · obtain ⟨a1, vs1, rfl, p1, r1⟩ := px
    cases py
    rename_i xs k
    replace e : (if (Nat.ble (xs.length * k.toNat) 1000000 && Nat.blt k.natAbs 1000000) = true then some (D.lst (List.replicate k.toNat xs).flatten) else none) = some d := e
    split at e
    · rename_i hz
      cases e
      obtain ⟨h1, h2⟩ := Bool.and_eq_true_iff.mp hz
      have h1 := Nat.le_of_ble_eq_true h1
      have h2 : k.natAbs < 1000000 := Nat.le_of_ble_eq_true h2
      have l1 := r1.length
      refine op_rep pins s σ H _ _ v u Q I rx ry ⟨_, _, vs1, rfl, rfl, p1, by omega, by omega, by rw [← l1]; omega, fun p hp => ?_⟩
      have le : Le F (upd F p (.lst (List.replicate k.toNat vs1).flatten)) := Le.new (R.fresh hp).1
      exact q _ _ _ le (R.newF hp) (.lst upd_same ((r1.rep _).mono le))
    · cases e
theorem op_fdivD : OpR X (binaryOp .FloorDiv) (r2D g (binD .fdiv)) := by
  intro pins s σ H x y v u Q I rx ry h
  obtain ⟨F, ρ, G, S, dx, dy, d, R, px, py, e, q⟩ := h
  replace e : fdivD dx dy = some d := e
  cases dx <;> cases dy <;> first | cases e | skip
  cases px; cases py
  rename_i i j
  replace e : (if (smB j && !(j == 0)) = true then some (D.int (i.fdiv j)) else none) = some d := e
  split at e
  · rename_i hz
    cases e
    obtain ⟨h1, h2⟩ := Bool.and_eq_true_iff.mp hz
    have h3 : j ≠ 0 := by simpa using h2
    obtain ⟨t, rfl⟩ := rx
    obtain ⟨t', rfl⟩ := ry
    have l : j.natAbs.log2 < 9000 := Nat.lt_of_lt_of_le (PySem.Flt.log2_lt_of (by decide) (sm_lt h1)) (by decide)
    exact floordiv_int h3 ⟨.int _, H, I.tok _, ⟨_, rfl⟩, q F H _ (Le.refl F) R (.int _)⟩ (.inl (PyProof.noPylong_of_log2 l))
  · cases e
theorem op_modD : OpR X (binaryOp .Mod) (r2D g (binD .mod)) := by
  intro pins s σ H x y v u Q I rx ry h
  obtain ⟨F, ρ, G, S, dx, dy, d, R, px, py, e, q⟩ := h
  replace e : modD dx dy = some d := e
  cases dx <;> cases dy <;> first | cases e | skip
  cases px; cases py
  rename_i i j
  replace e : (if (j == 0) = true then none else some (D.int (i.fmod j))) = some d := e
  split at e
  · cases e
  · rename_i hz
    cases e
    have h3 : j ≠ 0 := by simpa using hz
    exact op_modN pins s σ H _ _ v u Q I rx ry ⟨_, _, rfl, rfl, h3, q F H _ (Le.refl F) R (.int _)⟩
theorem op_powD : OpR X (binaryOp .Pow) (r2D g (binD .pow)) := by
  intro pins s σ H x y v u Q I rx ry h
  obtain ⟨F, ρ, G, S, dx, dy, d, R, px, py, e, q⟩ := h
  replace e : powD dx dy = some d := e
  cases dx <;> cases dy <;> first | cases e | skip
  cases px; cases py
  rename_i i j
  replace e : (if (Nat.blt i.natAbs 18446744073709551616 && (decide (0 ≤ j) && decide (j ≤ 1000))) = true then some (D.int (i ^ j.toNat)) else none) = some d := e
  split at e
  · rename_i hz
    cases e
    simp only [Bool.and_eq_true, decide_eq_true_eq] at hz
    obtain ⟨h1, h2, h3⟩ := hz
    have h1 : i.natAbs < 18446744073709551616 := Nat.le_of_ble_eq_true h1
    exact op_pow pins s σ H _ _ v u Q I rx ry ⟨_, _, rfl, rfl, ⟨h2, by omega, by omega⟩, q F H _ (Le.refl F) R (.int _)⟩
  · cases e
theorem re_neg {a : Expr} {ia : E} {pos : Pos} (ha : PE X a (rdE g L c W ia)) : PE X (.UnaryOp .USub a pos) (rdE g L c W (.neg ia)) := peImp (pe_un un_neg ha) fun σ H Q q => by
  obtain ⟨F, ρ, G, fr, S, r, S', R, Fo, e, hx, hq⟩ := q
  refine stepE (k := fun s S1 => pk1 S1 s fun x => outD S1 (match x with | .int i => some (.int (-i)) | _ => none)) R Fo e hx fun s S1 F1 H1 x h1 le R1 sx => ?_
  obtain ⟨dx, px, h3⟩ := pk1_some h1
  obtain ⟨d, h5, rfl, rfl⟩ := outD_some h3
  have p := peek_ok R1 sx px
  cases dx <;> first | cases h5 | skip
  cases p
  exact ⟨_, rfl, hq _ rfl F1 H1 _ le R1 (.int _)⟩
end
end Cm

namespace Cm
open PySem PySem.Spec PyProof.Rows L2
/-! ### == and != -/
mutual
def toP : D → PyData
  | .non => .none
  | .bl b => .bool b
  | .int i => .int i
  | .str x => .str x
  | .tup xs => .tuple (toPL xs)
  | .lst xs => .list (toPL xs)
  | .exc _ => .none
  | .scr _ => .none
def toPL : List D → List PyData
  | [] => []
  | x :: xs => toP x :: toPL xs
end
mutual
theorem pln_lay : ∀ (x : D) (n : Nat), pln n x = true → (toP x).canLay0 = true
  | .non, _, _ => by simp only [toP, PyData.canLay0]
  | .bl _, _, _ => by simp only [toP, PyData.canLay0]
  | .int _, _, _ => by simp only [toP, PyData.canLay0]
  | .str x, n, h => by
    cases n <;> (simp only [pln] at h; simp only [toP, PyData.canLay0]; exact h)
  | .tup xs, 0, h => by simp only [pln] at h; cases h
  | .tup xs, n + 1, h => by simp only [pln] at h; simp only [toP, PyData.canLay0]; exact plnL_lay xs n h
  | .lst xs, 0, h => by simp only [pln] at h; cases h
  | .lst xs, n + 1, h => by simp only [pln] at h; simp only [toP, PyData.canLay0]; exact plnL_lay xs n h
  | .exc _, _, _ => by simp only [toP, PyData.canLay0]
  | .scr _, _, _ => by simp only [toP, PyData.canLay0]
theorem plnL_lay : ∀ (xs : List D) (n : Nat), plnL n xs = true → PyData.canLayAll0 (toPL xs) = true
  | [], _, _ => by simp only [toPL, PyData.canLayAll0]
  | x :: xs, n, h => by
    simp only [plnL, Bool.and_eq_true] at h
    simp only [toPL, PyData.canLayAll0, Bool.and_eq_true]
    exact ⟨pln_lay x n h.1, plnL_lay xs n h.2⟩
end
mutual
theorem pln_depth : ∀ (x : D) (n : Nat), pln n x = true → (toP x).depth ≤ n
  | .non, _, _ => by simp only [toP, PyData.depth]; omega
  | .bl _, _, _ => by simp only [toP, PyData.depth]; omega
  | .int _, _, _ => by simp only [toP, PyData.depth]; omega
  | .str x, n, h => by simp only [toP, PyData.depth]; omega
  | .tup xs, 0, h => by simp only [pln] at h; cases h
  | .tup xs, n + 1, h => by
    simp only [pln] at h; simp only [toP, PyData.depth]
    have := plnL_depth xs n h; omega
  | .lst xs, 0, h => by simp only [pln] at h; cases h
  | .lst xs, n + 1, h => by
    simp only [pln] at h; simp only [toP, PyData.depth]
    have := plnL_depth xs n h; omega
  | .exc _, _, _ => by simp only [toP, PyData.depth]; omega
  | .scr _, _, _ => by simp only [toP, PyData.depth]; omega
theorem plnL_depth : ∀ (xs : List D) (n : Nat), plnL n xs = true → PyData.depthAll (toPL xs) ≤ n
  | [], _, _ => by simp only [toPL, PyData.depthAll]; omega
  | x :: xs, n, h => by
    simp only [plnL, Bool.and_eq_true] at h
    simp only [toPL, PyData.depthAll]
    have h1 := pln_depth x n h.1
    have h2 := plnL_depth xs n h.2
    omega
end
theorem pln_shaped {x : D} (h : pln 60 x = true) : SeqAt.shaped (toP x) = true := by
  unfold SeqAt.shaped
  rw [pln_lay x 60 h]
  have := pln_depth x 60 h
  simp only [Bool.true_and, decide_eq_true_eq]
  omega
mutual
theorem eqv_deq : ∀ (x y : D) (n m : Nat), pln n x = true → pln m y = true → PyData.eqv (toP x) (toP y) = deq x y
  | .exc _, y, n, m, h, _ => by cases n <;> (simp only [pln] at h; cases h)
  | .scr _, y, n, m, h, _ => by cases n <;> (simp only [pln] at h; cases h)
  | x, .exc _, n, m, _, h => by cases m <;> (simp only [pln] at h; cases h)
  | x, .scr _, n, m, _, h => by cases m <;> (simp only [pln] at h; cases h)
  | .tup xs, .tup ys, n, m, h1, h2 => by
    cases n with
    | zero => simp only [pln] at h1; cases h1
    | succ n =>
      cases m with
      | zero => simp only [pln] at h2; cases h2
      | succ m =>
        simp only [pln] at h1 h2
        simp only [toP, PyData.eqv, deq]
        exact eqvL_deq xs ys n m h1 h2
  | .lst xs, .lst ys, n, m, h1, h2 => by
    cases n with
    | zero => simp only [pln] at h1; cases h1
    | succ n =>
      cases m with
      | zero => simp only [pln] at h2; cases h2
      | succ m =>
        simp only [pln] at h1 h2
        simp only [toP, PyData.eqv, deq]
        exact eqvL_deq xs ys n m h1 h2
  | .non, .non, _, _, _, _ => by simp only [toP, PyData.eqv, deq]
  | .non, .bl _, _, _, _, _ => by simp only [toP, PyData.eqv, deq]
  | .non, .int _, _, _, _, _ => by simp only [toP, PyData.eqv, deq]
  | .non, .str _, _, _, _, _ => by simp only [toP, PyData.eqv, deq]
  | .non, .tup _, _, _, _, _ => by simp only [toP, PyData.eqv, deq]
  | .non, .lst _, _, _, _, _ => by simp only [toP, PyData.eqv, deq]
  | .bl _, .non, _, _, _, _ => by simp only [toP, PyData.eqv, deq]
  | .bl _, .bl _, _, _, _, _ => by simp only [toP, PyData.eqv, deq]
  | .bl _, .int _, _, _, _, _ => by simp only [toP, PyData.eqv, deq]
  | .bl _, .str _, _, _, _, _ => by simp only [toP, PyData.eqv, deq]
  | .bl _, .tup _, _, _, _, _ => by simp only [toP, PyData.eqv, deq]
  | .bl _, .lst _, _, _, _, _ => by simp only [toP, PyData.eqv, deq]
  | .int _, .non, _, _, _, _ => by simp only [toP, PyData.eqv, deq]
  | .int _, .bl _, _, _, _, _ => by simp only [toP, PyData.eqv, deq]
  | .int _, .int _, _, _, _, _ => by simp only [toP, PyData.eqv, deq]
  | .int _, .str _, _, _, _, _ => by simp only [toP, PyData.eqv, deq]
  | .int _, .tup _, _, _, _, _ => by simp only [toP, PyData.eqv, deq]
  | .int _, .lst _, _, _, _, _ => by simp only [toP, PyData.eqv, deq]
  | .str _, .non, _, _, _, _ => by simp only [toP, PyData.eqv, deq]
  | .str _, .bl _, _, _, _, _ => by simp only [toP, PyData.eqv, deq]
  | .str _, .int _, _, _, _, _ => by simp only [toP, PyData.eqv, deq]
  | .str _, .str _, _, _, _, _ => by simp only [toP, PyData.eqv, deq]
  | .str _, .tup _, _, _, _, _ => by simp only [toP, PyData.eqv, deq]
  | .str _, .lst _, _, _, _, _ => by simp only [toP, PyData.eqv, deq]
  | .tup _, .non, _, _, _, _ => by simp only [toP, PyData.eqv, deq]
  | .tup _, .bl _, _, _, _, _ => by simp only [toP, PyData.eqv, deq]
  | .tup _, .int _, _, _, _, _ => by simp only [toP, PyData.eqv, deq]
  | .tup _, .str _, _, _, _, _ => by simp only [toP, PyData.eqv, deq]
  | .tup _, .lst _, _, _, _, _ => by simp only [toP, PyData.eqv, deq]
  | .lst _, .non, _, _, _, _ => by simp only [toP, PyData.eqv, deq]
  | .lst _, .bl _, _, _, _, _ => by simp only [toP, PyData.eqv, deq]
  | .lst _, .int _, _, _, _, _ => by simp only [toP, PyData.eqv, deq]
  | .lst _, .str _, _, _, _, _ => by simp only [toP, PyData.eqv, deq]
  | .lst _, .tup _, _, _, _, _ => by simp only [toP, PyData.eqv, deq]
theorem eqvL_deq : ∀ (xs ys : List D) (n m : Nat), plnL n xs = true → plnL m ys = true → PyData.eqvAll (toPL xs) (toPL ys) = deqL xs ys
  | [], [], _, _, _, _ => by simp only [toPL, PyData.eqvAll, deqL]
  | [], _ :: _, _, _, _, _ => by simp only [toPL, PyData.eqvAll, deqL]
  | _ :: _, [], _, _, _, _ => by simp only [toPL, PyData.eqvAll, deqL]
  | x :: xs, y :: ys, n, m, h1, h2 => by
    simp only [plnL, Bool.and_eq_true] at h1 h2
    simp only [toPL, PyData.eqvAll, deqL]
    rw [eqv_deq x y n m h1.1 h2.1, eqvL_deq xs ys n m h1.2 h2.2]
end
section
variable {g : Gx} {F H : Hp}
mutual
theorem Rep.dp (le : Le F H) : ∀ (x : D) (n : Nat) (v : V), pln n x = true → Rep g F x v → Dp g.K H v (toP x)
  | .non, _, _, _, .non => by simp only [toP]; exact .non
  | .bl b, _, _, _, .bl _ => by simp only [toP]; exact .bl b
  | .int i, _, _, _, .int _ => by simp only [toP]; exact .int i
  | .str x, _, _, _, .str _ => by simp only [toP]; exact .str x
  | .tup xs, 0, _, h, _ => by simp only [pln] at h; cases h
  | .tup xs, n + 1, _, h, .tup q r => by
    simp only [pln] at h
    simp only [toP]
    exact .tup (SqT.of (le _ _ q)) (Reps.dp le xs n _ h r)
  | .lst xs, 0, _, h, _ => by simp only [pln] at h; cases h
  | .lst xs, n + 1, _, h, .lst q r => by
    simp only [pln] at h
    simp only [toP]
    exact .lst (SqL.of (le _ _ q)) (Reps.dp le xs n _ h r)
  | .exc _, n, _, h, _ => by cases n <;> (simp only [pln] at h; cases h)
  | .scr _, n, _, h, _ => by cases n <;> (simp only [pln] at h; cases h)
theorem Reps.dp (le : Le F H) : ∀ (xs : List D) (n : Nat) (vs : List V), plnL n xs = true → Reps g F xs vs → DpAll g.K H vs (toPL xs)
  | [], _, _, _, .nil => by simp only [toPL]; exact .nil
  | x :: xs, n, _, h, .cons r t => by
    simp only [plnL, Bool.and_eq_true] at h
    simp only [toPL]
    exact .cons (Rep.dp le x n _ h.1 r) (Reps.dp le xs n _ h.2 t)
end
theorem Pk.dp (le : Le F H) {x : D} {n : Nat} {v : V} (h : pln n x = true) (p : Pk g F H x v) : Dp g.K H v (toP x) := by
  cases x with
  | lst xs =>
    cases n with
    | zero => simp only [pln] at h; cases h
    | succ n =>
      simp only [pln] at h
      obtain ⟨a, vs, rfl, q, r⟩ := p
      simp only [toP]
      exact .lst (SqL.of q) (Reps.dp le xs n vs h r)
  | non => exact Rep.dp le _ n v h p
  | bl _ => exact Rep.dp le _ n v h p
  | int _ => exact Rep.dp le _ n v h p
  | str _ => exact Rep.dp le _ n v h p
  | tup _ => exact Rep.dp le _ n v h p
  | exc _ => exact Rep.dp le _ n v h p
  | scr _ => exact Rep.dp le _ n v h p
end
/-- a comparison of what is read -/
def r2B (g : Gx) (f : D → D → Option Bool) : R2 := fun x y H Q => ∃ F ρ G S dx dy b, Rel g F ρ G S H ∧ Pk g F H dx x ∧ Pk g F H dy y ∧ f dx dy = some b ∧ Q (.bl b) H
section
variable {g : Gx} {L : Lw} {c : Ce} {W : WX} {F G H : Hp} {ρ : List Addr} {S S' : Sto} {fr : Fr} {σ : L2.St} {r : Xr} {X : Cx}
theorem op_eqE (hK : X.K = g.K) (hu : X.A.units + 64 < cLine) : OpR X (compareOp .Eq) (r2B g (cmpD .eq)) := by
  intro pins s σ H x y v u Q I rx ry h
  obtain ⟨F, ρ, G, S, dx, dy, b, R, px, py, e, q⟩ := h
  replace e : (if (pln 60 dx && pln 60 dy) = true then some (deq dx dy) else none) = some b := by cases dx <;> cases dy <;> exact e
  split at e
  · rename_i hz
    cases e
    obtain ⟨h1, h2⟩ := Bool.and_eq_true_iff.mp hz
    refine op_eqD hu pins s σ H x y v u Q I rx ry ⟨toP dx, toP dy, by rw [hK]; exact Pk.dp R.sub h1 px, by rw [hK]; exact Pk.dp R.sub h2 py, pln_shaped h1, pln_shaped h2, ?_⟩
    rw [eqv_deq dx dy 60 60 h1 h2]; exact q
  · cases e
theorem op_neE (hK : X.K = g.K) (hu : X.A.units + 64 < cLine) : OpR X (compareOp .NotEq) (r2B g (cmpD .ne)) := by
  intro pins s σ H x y v u Q I rx ry h
  obtain ⟨F, ρ, G, S, dx, dy, b, R, px, py, e, q⟩ := h
  replace e : (if (pln 60 dx && pln 60 dy) = true then some (!deq dx dy) else none) = some b := by cases dx <;> cases dy <;> exact e
  split at e
  · rename_i hz
    cases e
    obtain ⟨h1, h2⟩ := Bool.and_eq_true_iff.mp hz
    refine op_neD hu pins s σ H x y v u Q I rx ry ⟨toP dx, toP dy, by rw [hK]; exact Pk.dp R.sub h1 px, by rw [hK]; exact Pk.dp R.sub h2 py, pln_shaped h1, pln_shaped h2, ?_⟩
    rw [eqv_deq dx dy 60 60 h1 h2]; exact q
  · cases e
theorem op_ltE : OpR X (compareOp .Lt) (r2B g (cmpD .lt)) := by
  intro pins s σ H x y v u Q I rx ry h
  obtain ⟨F, ρ, G, S, dx, dy, b, R, px, py, e, q⟩ := h
  cases dx <;> cases dy <;> first | cases e | skip
  cases px; cases py
  exact op_lt pins s σ H _ _ v u Q I rx ry ⟨_, _, rfl, rfl, q⟩
theorem op_leE : OpR X (compareOp .LtE) (r2B g (cmpD .le)) := by
  intro pins s σ H x y v u Q I rx ry h
  obtain ⟨F, ρ, G, S, dx, dy, b, R, px, py, e, q⟩ := h
  cases dx <;> cases dy <;> first | cases e | skip
  cases px; cases py
  exact op_le pins s σ H _ _ v u Q I rx ry ⟨_, _, rfl, rfl, q⟩
theorem op_gtE : OpR X (compareOp .Gt) (r2B g (cmpD .gt)) := by
  intro pins s σ H x y v u Q I rx ry h
  obtain ⟨F, ρ, G, S, dx, dy, b, R, px, py, e, q⟩ := h
  cases dx <;> cases dy <;> first | cases e | skip
  cases px; cases py
  exact op_gt pins s σ H _ _ v u Q I rx ry ⟨_, _, rfl, rfl, q⟩
theorem op_geE : OpR X (compareOp .GtE) (r2B g (cmpD .ge)) := by
  intro pins s σ H x y v u Q I rx ry h
  obtain ⟨F, ρ, G, S, dx, dy, b, R, px, py, e, q⟩ := h
  cases dx <;> cases dy <;> first | cases e | skip
  cases px; cases py
  exact op_ge pins s σ H _ _ v u Q I rx ry ⟨_, _, rfl, rfl, q⟩
/-- a comparison's reading -/
theorem cmp_rd {ia ib : E} {o : Co} {Q : VK} {H : Hp} (q : rdE g L c W (.cmp o ia ib) σ H Q) : tOp (r2B g (cmpD o)) (rdE g L c W ia) (rdE g L c W ib) σ H Q := by
  obtain ⟨F, ρ, G, fr, S, r, S', R, Fo, e, hx, hq⟩ := q
  refine step2 (k := fun s t S2 => pk2 S2 s t fun x y => outB S2 (cmpD o x y)) R Fo e hx fun s t S2 F2 H2 x y h2 le R2 sx sy => ?_
  obtain ⟨dx, px, h3⟩ := pk1_some h2
  obtain ⟨dy, py, h4⟩ := pk1_some h3
  obtain ⟨d, h5, rfl, rfl⟩ := outB_some h4
  exact ⟨F2, ρ, G, _, dx, dy, d, R2, peek_ok R2 sx px, peek_ok R2 sy py, h5, hq _ rfl F2 H2 _ le R2 (.bl d)⟩
/-- a value that is a truth, read as a test -/
theorem rdT_rdE {e : E} {Q : Bool → Hp → Prop} (q : rdT g L c W e σ H Q) : rdE g L c W e σ H fun x H' => ∃ k, x = .bl k ∧ Q k H' := by
  obtain ⟨F, ρ, G, fr, S, r, S', R, Fo, e, hx, hq⟩ := q
  refine ⟨F, ρ, G, fr, S, r, S', R, Fo, e, hx, fun s es F' H' v le R' sv => ?_⟩
  obtain ⟨b, rfl, hb⟩ := hq s es
  cases (show Rep g F' (.bl b) v from sv)
  exact ⟨b, rfl, hb F' H' le R'⟩
theorem re_cmp {a b : Expr} {ia ib : E} {o : Co} {op : CmpOp} {pos : Pos} (ho : OpR X (compareOp op) (r2B g (cmpD o))) (ha : PE X a (rdE g L c W ia)) (hb : PE X b (rdE g L c W ib)) (hm : behindInMarks op b = false) : PE X (.Compare a [op] [b] pos) (rdE g L c W (.cmp o ia ib)) :=
  peImp (pe_cmpR ho ha hb hm) fun σ H Q q => cmp_rd q
theorem rt_cmp {a b : Expr} {ia ib : E} {o : Co} {op : CmpOp} {pos : Pos} (ho : OpR X (compareOp op) (r2B g (cmpD o))) (ha : PE X a (rdE g L c W ia)) (hb : PE X b (rdE g L c W ib)) (hm : behindInMarks op b = false) : PT X (.Compare a [op] [b] pos) (rdT g L c W (.cmp o ia ib)) :=
  ptImp (pt_cmpR ho ha hb hm) fun σ H Q q => cmp_rd (rdT_rdE q)
theorem chn_rd {ia ib id : E} {o o' : Co} {Q : VK} {H : Hp} (q : rdE g L c W (.chn o o' ia ib id) σ H Q) : tChain (r2B g (cmpD o)) (r2B g (cmpD o')) (rdE g L c W ia) (rdE g L c W ib) (rdE g L c W id) σ H Q := by
  obtain ⟨F, ρ, G, fr, S, r, S', R, Fo, e, hx, hq⟩ := q
  refine step2 (k := fun s t S2 => pk2 S2 s t fun x y => match cmpD o x y with
    | some true => bnd (evE L c id fr S2) fun u S3 => pk2 S3 t u fun y z => outB S3 (cmpD o' y z)
    | some false => some (.v (.d (.bl false)), S2)
    | none => none) R Fo e hx fun s t S2 F2 H2 x y h2 le R2 sx sy => ?_
  obtain ⟨dx, px, h3⟩ := pk1_some h2
  obtain ⟨dy, py, h4⟩ := pk1_some h3
  dsimp only at h4
  cases hc : cmpD o dx dy with
  | none => rw [hc] at h4; cases h4
  | some b =>
    rw [hc] at h4
    refine ⟨F2, ρ, G, S2, dx, dy, b, R2, peek_ok R2 sx px, peek_ok R2 sy py, hc, b, rfl, ?_⟩
    cases b with
    | false =>
      cases (show some (Xr.v (.d (.bl false)), S2) = some (r, S') from h4)
      rw [if_neg Bool.false_ne_true]
      exact hq _ rfl F2 H2 _ le R2 (.bl false)
    | true =>
      rw [if_pos rfl]
      refine stepE (k := fun u S3 => pk2 S3 t u fun y z => outB S3 (cmpD o' y z)) R2 (Fo.mono le) h4 (hx.mono le) fun u S3 F3 H3 z h5 le3 R3 sz => ?_
      obtain ⟨dy', py', h6⟩ := pk1_some h5
      obtain ⟨dz, pz, h7⟩ := pk1_some h6
      obtain ⟨d, h8, rfl, rfl⟩ := outB_some h7
      exact ⟨F3, ρ, G, _, dy', dz, d, R3, peek_ok R3 (sy.mono le3) py', peek_ok R3 sz pz, h8, hq _ rfl F3 H3 _ (le.trans le3) R3 (.bl d)⟩
theorem re_chn {a b d : Expr} {ia ib id : E} {o o' : Co} {op op' : CmpOp} {pos : Pos} (ho : OpR X (compareOp op) (r2B g (cmpD o))) (ho' : OpR X (compareOp op') (r2B g (cmpD o'))) (ha : PE X a (rdE g L c W ia)) (hb : PE X b (rdE g L c W ib)) (hd : PE X d (rdE g L c W id))
    (hm : lastMarks [op, op'] [b, d] = false) : PE X (.Compare a [op, op'] [b, d] pos) (rdE g L c W (.chn o o' ia ib id)) := peImp (pe_chain ho ho' ha hb hd hm) fun σ H Q q => chn_rd q
theorem rt_chn {a b d : Expr} {ia ib id : E} {o o' : Co} {op op' : CmpOp} {pos : Pos} (ho : OpR X (compareOp op) (r2B g (cmpD o))) (ho' : OpR X (compareOp op') (r2B g (cmpD o'))) (ha : PE X a (rdE g L c W ia)) (hb : PE X b (rdE g L c W ib)) (hd : PE X d (rdE g L c W id))
    (hm : lastMarks [op, op'] [b, d] = false) : PT X (.Compare a [op, op'] [b, d] pos) (rdT g L c W (.chn o o' ia ib id)) := ptImp (pt_chain ho ho' ha hb hd hm) fun σ H Q q => chn_rd (rdT_rdE q)
/-! ### is None -/
theorem isc_rd {ia : E} {p : Bool} {Q : VK} {H : Hp} (q : rdE g L c W (.isc ia .non p) σ H Q) : rdE g L c W ia σ H fun x H1 => Q (.bl (if p then decide (x = V.non) else !decide (x = V.non))) H1 := by
  obtain ⟨F, ρ, G, fr, S, r, S', R, Fo, e, hx, hq⟩ := q
  refine stepE (k := fun s S1 => pk1 S1 s fun x => outB S1 ((iscD x .non).map fun b => if p then b else !b)) R Fo e hx fun s S1 F1 H1 x h1 le R1 sx => ?_
  obtain ⟨dx, px, h3⟩ := pk1_some h1
  obtain ⟨d, h5, rfl, rfl⟩ := outB_some h3
  have pk := peek_ok R1 sx px
  have key : iscD dx .non = some (decide (x = V.non)) := by
    cases dx with
    | non => cases pk; rfl
    | lst _ => obtain ⟨a, vs, rfl, _⟩ := pk; rfl
    | _ => cases pk; rfl
  rw [key] at h5
  cases h5
  exact hq _ rfl F1 H1 _ le R1 (.bl _)
theorem re_isN {a : Expr} {ia : E} {j : Nat} {pos pos' : Pos} (ha : PE X a (rdE g L c W ia)) : PE X (.Compare a [.Is] [.Constant .none j pos'] pos) (rdE g L c W (.isc ia .non true)) :=
  peImp (pe_cmp (pc_isN ha)) fun σ H Q q => isc_rd (p := true) q
theorem re_notN {a : Expr} {ia : E} {j : Nat} {pos pos' : Pos} (ha : PE X a (rdE g L c W ia)) : PE X (.Compare a [.IsNot] [.Constant .none j pos'] pos) (rdE g L c W (.isc ia .non false)) :=
  peImp (pe_cmp (pc_notN ha)) fun σ H Q q => isc_rd (p := false) q
/-! ### tests -/
/-- any expression whose value is a truth -/
theorem rt_val {e : Expr} {i : E} (h : PE X e (rdE g L c W i)) (he : ∀ whole, isTrue e X.env whole = (do let v ← whole; standAt e.pos; holding [v] (truthy v)) := by intro _; rfl) : PT X e (rdT g L c W i) :=
  ptImp (pt_val h he) fun σ H Q q => rdT_rdE q
theorem rt_isN {a : Expr} {ia : E} {j : Nat} {pos pos' : Pos} (ha : PE X a (rdE g L c W ia)) : PT X (.Compare a [.Is] [.Constant .none j pos'] pos) (rdT g L c W (.isc ia .non true)) :=
  ptImp (pt_cmp (pc_isN ha)) fun σ H Q q => isc_rd (p := true) (rdT_rdE q)
theorem rt_notN {a : Expr} {ia : E} {j : Nat} {pos pos' : Pos} (ha : PE X a (rdE g L c W ia)) : PT X (.Compare a [.IsNot] [.Constant .none j pos'] pos) (rdT g L c W (.isc ia .non false)) :=
  ptImp (pt_cmp (pc_notN ha)) fun σ H Q q => isc_rd (p := false) (rdT_rdE q)
theorem and_rd {ia ib : E} {Q : Bool → Hp → Prop} {H : Hp} (q : rdT g L c W (.and ia ib) σ H Q) : tAnd (rdT g L c W ia) (rdT g L c W ib) σ H Q := by
  obtain ⟨F, ρ, G, fr, S, r, S', R, Fo, e, hx, hq⟩ := q
  refine stepT (k := fun r S1 => match r with
    | true => evE L c ib fr S1
    | false => some (.v (.d (.bl false)), S1)) R Fo e hx fun b S1 F1 H1 h1 le R1 => ?_
  cases b with
  | true =>
    rw [if_pos rfl]
    exact ⟨F1, ρ, G, fr, S1, r, S', R1, Fo.mono le, h1, hx.mono le, fun s es => (hq s es).imp fun b hb => ⟨hb.1, fun F' H' le' R' => hb.2 F' H' (le.trans le') R'⟩⟩
  | false =>
    rw [if_neg Bool.false_ne_true]
    cases (show some (Xr.v (.d (.bl false)), S1) = some (r, S') from h1)
    obtain ⟨b, eb, hb⟩ := hq _ rfl
    cases eb
    exact hb F1 H1 le R1
theorem or_rd {ia ib : E} {Q : Bool → Hp → Prop} {H : Hp} (q : rdT g L c W (.or ia ib) σ H Q) : tOr (rdT g L c W ia) (rdT g L c W ib) σ H Q := by
  obtain ⟨F, ρ, G, fr, S, r, S', R, Fo, e, hx, hq⟩ := q
  refine stepT (k := fun r S1 => match r with
    | true => some (.v (.d (.bl true)), S1)
    | false => evE L c ib fr S1) R Fo e hx fun b S1 F1 H1 h1 le R1 => ?_
  cases b with
  | false =>
    rw [if_neg Bool.false_ne_true]
    exact ⟨F1, ρ, G, fr, S1, r, S', R1, Fo.mono le, h1, hx.mono le, fun s es => (hq s es).imp fun b hb => ⟨hb.1, fun F' H' le' R' => hb.2 F' H' (le.trans le') R'⟩⟩
  | true =>
    rw [if_pos rfl]
    cases (show some (Xr.v (.d (.bl true)), S1) = some (r, S') from h1)
    obtain ⟨b, eb, hb⟩ := hq _ rfl
    cases eb
    exact hb F1 H1 le R1
theorem rw_and1 {a : Expr} {ia : E} {pos : Pos} (ha : PT X a (rdT g L c W ia)) : PW X (.BoolOp .And [a] pos) (rdT g L c W ia) := pw_and1 ha
theorem rw_or1 {a : Expr} {ia : E} {pos : Pos} (ha : PT X a (rdT g L c W ia)) : PW X (.BoolOp .Or [a] pos) (rdT g L c W ia) := pw_or1 ha
theorem rw_and {a b : Expr} {l : List Expr} {ia ib : E} {pos : Pos} (ha : PT X a (rdT g L c W ia)) (hb : PW X (.BoolOp .And (b :: l) pos) (rdT g L c W ib)) : PW X (.BoolOp .And (a :: b :: l) pos) (rdT g L c W (.and ia ib)) := pwImp (pw_and ha hb) fun σ H Q q => and_rd q
theorem rw_or {a b : Expr} {l : List Expr} {ia ib : E} {pos : Pos} (ha : PT X a (rdT g L c W ia)) (hb : PW X (.BoolOp .Or (b :: l) pos) (rdT g L c W ib)) : PW X (.BoolOp .Or (a :: b :: l) pos) (rdT g L c W (.or ia ib)) := pwImp (pw_or ha hb) fun σ H Q q => or_rd q
theorem rt_not {a : Expr} {ia : E} {pos : Pos} (ha : PT X a (rdT g L c W ia)) : PT X (.UnaryOp .Not a pos) (rdT g L c W (.not ia)) := ptImp (pt_not ha) fun σ H Q q => by
  obtain ⟨F, ρ, G, fr, S, r, S', R, Fo, e, hx, hq⟩ := q
  refine stepT (k := fun r S1 => some (.v (.d (.bl (!r))), S1)) R Fo e hx fun b S1 F1 H1 h1 le R1 => ?_
  cases h1
  obtain ⟨b, eb, hb⟩ := hq _ rfl
  cases eb
  exact hb F1 H1 le R1
/-- truth of a thing -/
theorem rt_tru {a : Expr} {ia : E} (hK : X.K = g.K) (ha : PE X a (rdE g L c W ia)) (he : ∀ whole, isTrue a X.env whole = (do let v ← whole; standAt a.pos; holding [v] (truthy v)) := by intro _; rfl) : PT X a (rdT g L c W (.tru ia)) :=
  ptImp (pt_truth ha he) fun σ H Q q => by
    obtain ⟨F, ρ, G, fr, S, r, S', R, Fo, e, hx, hq⟩ := q
    refine stepE (k := fun s S1 => pk1 S1 s fun x => outB S1 (truD x)) R Fo e hx fun s S1 F1 H1 x h1 le R1 sx => ?_
    obtain ⟨dx, px, h3⟩ := pk1_some h1
    obtain ⟨d, h5, rfl, rfl⟩ := outB_some h3
    obtain ⟨b, eb, hb⟩ := hq _ rfl
    cases eb
    refine ⟨d, ?_, hb F1 H1 le R1⟩
    have pk := peek_ok R1 sx px
    cases dx with
    | non => cases pk; cases h5; exact rfl
    | bl b => cases pk; cases h5; exact rfl
    | int i => cases pk; cases h5; exact rfl
    | str x => cases h5
    | exc k => cases h5
    | tup xs =>
      cases pk with
      | tup q r =>
        cases h5
        exact .inr (.inl ⟨_, SqT.of (R1.sub _ _ q), by cases r <;> rfl⟩)
    | lst xs =>
      obtain ⟨a, vs, rfl, q, r⟩ := pk
      cases h5
      exact .inl ⟨_, SqL.of q, by cases r <;> rfl⟩
    | scr ns =>
      cases pk with
      | scr q =>
        cases h5
        refine .inl ⟨_, by rw [hK]; exact R1.sub.sqL q, ?_⟩
        cases ns <;> rfl
/-! ### and, or, not as values -/
theorem re_one {o : BoolOp} {a : Expr} {ia : E} {pos : Pos} (ha : PE X a (rdE g L c W ia)) : PE X (.BoolOp o [a] pos) (rdE g L c W ia) := pe_one ha
theorem re_and {a b : Expr} {l : List Expr} {ia ib : E} {pos : Pos} (ha : PE X a (rdE g L c W ia)) (hb : PE X (.BoolOp .And (b :: l) pos) (rdE g L c W ib)) : PE X (.BoolOp .And (a :: b :: l) pos) (rdE g L c W (.and ia ib)) := peImp (pe_and ha hb) fun σ H Q q => by
  obtain ⟨F, ρ, G, fr, S, r, S', R, Fo, e, hx, hq⟩ := q
  refine stepB (k := fun r S1 => match r with
    | true => evE L c ib fr S1
    | false => some (.v (.d (.bl false)), S1)) R Fo e hx fun b S1 F1 H1 h1 le R1 => ⟨b, rfl, ?_⟩
  cases b with
  | true =>
    rw [if_pos rfl]
    exact ⟨F1, ρ, G, fr, S1, r, S', R1, Fo.mono le, h1, hx.mono le, fun s es F' H' v le' R' sv => hq s es F' H' v (le.trans le') R' sv⟩
  | false =>
    rw [if_neg Bool.false_ne_true]
    cases (show some (Xr.v (.d (.bl false)), S1) = some (r, S') from h1)
    exact hq _ rfl F1 H1 _ le R1 (.bl false)
theorem re_or {a b : Expr} {l : List Expr} {ia ib : E} {pos : Pos} (ha : PE X a (rdE g L c W ia)) (hb : PE X (.BoolOp .Or (b :: l) pos) (rdE g L c W ib)) : PE X (.BoolOp .Or (a :: b :: l) pos) (rdE g L c W (.or ia ib)) := peImp (pe_or ha hb) fun σ H Q q => by
  obtain ⟨F, ρ, G, fr, S, r, S', R, Fo, e, hx, hq⟩ := q
  refine stepB (k := fun r S1 => match r with
    | true => some (.v (.d (.bl true)), S1)
    | false => evE L c ib fr S1) R Fo e hx fun b S1 F1 H1 h1 le R1 => ⟨b, rfl, ?_⟩
  cases b with
  | false =>
    rw [if_neg Bool.false_ne_true]
    exact ⟨F1, ρ, G, fr, S1, r, S', R1, Fo.mono le, h1, hx.mono le, fun s es F' H' v le' R' sv => hq s es F' H' v (le.trans le') R' sv⟩
  | true =>
    rw [if_pos rfl]
    cases (show some (Xr.v (.d (.bl true)), S1) = some (r, S') from h1)
    exact hq _ rfl F1 H1 _ le R1 (.bl true)
theorem re_not {a : Expr} {ia : E} {pos : Pos} (ha : PE X a (rdE g L c W ia)) : PE X (.UnaryOp .Not a pos) (rdE g L c W (.not ia)) := peImp (pe_not ha) fun σ H Q q => by
  obtain ⟨F, ρ, G, fr, S, r, S', R, Fo, e, hx, hq⟩ := q
  refine stepB (k := fun r S1 => some (.v (.d (.bl (!r))), S1)) R Fo e hx fun b S1 F1 H1 h1 le R1 => ⟨b, rfl, ?_⟩
  cases h1
  exact hq _ rfl F1 H1 _ le R1 (.bl _)
theorem re_ifx {t a b : Expr} {it ia ib : E} {pos : Pos} (ht : PT X t (rdT g L c W it)) (ha : PE X a (rdE g L c W ia)) (hb : PE X b (rdE g L c W ib)) : PE X (.IfExp t a b pos) (rdE g L c W (.ifx it ia ib)) := peImp (pe_ifExp ht ha hb) fun σ H Q q => by
  obtain ⟨F, ρ, G, fr, S, r, S', R, Fo, e, hx, hq⟩ := q
  refine stepT (k := fun r S1 => match r with
    | true => evE L c ia fr S1
    | false => evE L c ib fr S1) R Fo e hx fun b S1 F1 H1 h1 le R1 => ?_
  cases b with
  | true =>
    rw [if_pos rfl]
    exact ⟨F1, ρ, G, fr, S1, r, S', R1, Fo.mono le, h1, hx.mono le, fun s es F' H' v le' R' sv => hq s es F' H' v (le.trans le') R' sv⟩
  | false =>
    rw [if_neg Bool.false_ne_true]
    exact ⟨F1, ρ, G, fr, S1, r, S', R1, Fo.mono le, h1, hx.mono le, fun s es F' H' v le' R' sv => hq s es F' H' v (le.trans le') R' sv⟩
end
end Cm

namespace Cm
open PySem PySem.Spec PyProof.Rows L2
section
variable {g : Gx} {L : Lw} {c : Ce} {W : WX} {F G H : Hp} {ρ : List Addr} {S S' : Sto} {fr : Fr} {σ : L2.St} {r : Xr} {X : Cx}
/-! ### items -/
theorem Reps.atI : ∀ {xs : List D} {vs : List V} {i : Int} {x : D}, Reps g F xs vs → atI xs i = some x → ∃ v, L2.atI vs i = some v ∧ Rep g F x v := fun {xs vs i x} h e => by
  unfold L2.atI at e ⊢
  rw [← h.length]
  cases q : ixN xs.length i with
  | none => rw [q] at e; cases e
  | some j =>
    rw [q] at e
    exact h.get e
theorem atI_map {α β : Type} (f : α → β) (xs : List α) (i : Int) : L2.atI (xs.map f) i = (L2.atI xs i).map f := by
  unfold L2.atI
  rw [List.length_map]
  cases ixN xs.length i with
  | none => rfl
  | some j => simp [List.getElem?_map]
def idxD (x y : D) : Option D := match y with
  | .int i => itemD x i
  | _ => none
theorem ix_D (hK : X.K = g.K) : IxR X (r2D g idxD) := by
  intro value slice pins s σ H x y v u Q I rx ry h hs
  obtain ⟨F, ρ, G, S, dx, dy, d, R, px, py, e, q⟩ := h
  cases dy <;> first | cases e | skip
  rename_i i
  cases py
  replace e : itemD dx i = some d := e
  cases dx <;> first | cases e | skip
  · cases px with
    | tup p1 r1 =>
      obtain ⟨w, h1, h2⟩ := r1.atI e
      exact ix_tup value slice pins s σ H _ _ v u Q I rx ry ⟨_, _, i, w, rfl, rfl, SqT.of (R.sub _ _ p1), h1, q F H w (Le.refl F) R h2⟩ hs
  · obtain ⟨a1, vs1, rfl, p1, r1⟩ := px
    obtain ⟨w, h1, h2⟩ := r1.atI e
    exact ix_list value slice pins s σ H _ _ v u Q I rx ry ⟨_, _, i, w, rfl, rfl, SqL.of p1, h1, q F H w (Le.refl F) R h2⟩ hs
  · cases px with
    | scr p1 =>
      rename_i ns a
      replace e : (L2.atI ns i).map D.int = some d := e
      cases q1 : L2.atI ns i with
      | none => rw [q1] at e; cases e
      | some z =>
        rw [q1] at e
        cases e
        exact ix_list value slice pins s σ H _ _ v u Q I rx ry ⟨_, _, i, .int z, rfl, rfl, by rw [hK]; exact R.sub.sqL p1, by rw [atI_map, q1]; rfl, q F H _ (Le.refl F) R (.int z)⟩ hs
theorem re_idx {a b : Expr} {ia ib : E} {pos : Pos} (hK : X.K = g.K) (ha : PE X a (rdE g L c W ia)) (hb : PE X b (rdE g L c W ib)) (hs : PlainIx b) : PE X (.Subscript a b pos) (rdE g L c W (.idx ia ib)) :=
  peImp (pe_ix (ix_D (g := g) hK) ha hb hs) fun σ H Q q => by
    obtain ⟨F, ρ, G, fr, S, r, S', R, Fo, e, hx, hq⟩ := q
    refine step2 (k := fun s t S2 => pk2 S2 s t fun x y => match y with
      | .int i => outD S2 (itemD x i)
      | _ => none) R Fo e hx fun s t S2 F2 H2 x y h2 le R2 sx sy => ?_
    obtain ⟨dx, px, h3⟩ := pk1_some h2
    obtain ⟨dy, py, h4⟩ := pk1_some h3
    have h4 : outD S2 (idxD dx dy) = some (r, S') := by cases dy <;> first | exact h4 | cases h4
    obtain ⟨d, h5, rfl, rfl⟩ := outD_some h4
    exact ⟨F2, ρ, G, _, dx, dy, d, R2, peek_ok R2 sx px, peek_ok R2 sy py, h5, fun F' H' v le' R' rp => hq _ rfl F' H' v (le.trans le') R' rp⟩
/-! ### slices -/
def rdO (g : Gx) (L : Lw) (c : Ce) (W : WX) (e : E) : TO := fun σ H Q => ∃ F ρ G fr S r S', Rel g F ρ G S H ∧ Fok g F ρ fr σ ∧ evE L c e fr S = some (r, S') ∧ PoX g W F ρ G σ S' r ∧
  ∀ s, r = .v s → ∃ o, optS s = some o ∧ ∀ F' H', Le F F' → Rel g F' ρ G S' H' → Q o H'
theorem poImp {e : Option Expr} {t t' : TO} (h : PO X e t) (hi : ∀ σ H Q, t' σ H Q → t σ H Q) : PO X e t' := ⟨fun pins s σ H Q I q => h.run pins s σ H Q I (hi σ H Q q)⟩
theorem ro_none : PO X none (rdO g L c W (.lit .non)) := poImp po_none fun σ H Q q => by
  obtain ⟨F, ρ, G, fr, S, r, S', R, Fo, e, hx, hq⟩ := q
  cases (show some (Xr.v (.d .non), S) = some (r, S') from e)
  obtain ⟨o, e1, h⟩ := hq _ rfl
  cases e1
  exact h F H (Le.refl F) R
/-- a part that is an int -/
theorem ro_some {e : Expr} {i : E} (h : PE X e (rdE g L c W i)) : PO X (some e) (rdO g L c W (.prt i)) := poImp (po_some h) fun σ H Q q => by
  obtain ⟨F, ρ, G, fr, S, r, S', R, Fo, e, hx, hq⟩ := q
  refine stepE (k := fun s S1 => match s with
    | .d (.int i) => some (.v (.d (.int i)), S1)
    | _ => none) R Fo e hx fun s S1 F1 H1 v h1 le R1 sv => ?_
  try dsimp only at h1
  split at h1
  · rename_i j
    cases h1
    obtain ⟨o, e1, h⟩ := hq _ rfl
    cases e1
    cases (show Rep g F1 (.int j) v from sv)
    exact ⟨j, rfl, h F1 H1 le R1⟩
  · cases h1
theorem stepO {a : E} {k : Sl → Sto → Option (Xr × Sto)} {Q : Option Int → Hp → Prop} (R : Rel g F ρ G S H) (Fo : Fok g F ρ fr σ) (h : bnd (evE L c a fr S) k = some (r, S')) (hx : PoX g W F ρ G σ S' r) (ho : ∀ s S1, k s S1 = some (r, S') → ∃ o, optS s = some o)
    (hk : ∀ s o S1 F1 H1, k s S1 = some (r, S') → optS s = some o → Le F F1 → Rel g F1 ρ G S1 H1 → Q o H1) : rdO g L c W a σ H Q := by
  unfold bnd at h
  split at h
  · rename_i s S1 e
    refine ⟨F, ρ, G, fr, S, .v s, S1, R, Fo, e, trivial, fun s' es => ?_⟩
    cases es
    obtain ⟨o, eo⟩ := ho s S1 h
    exact ⟨o, eo, fun F1 H1 le R1 => hk s o S1 F1 H1 h eo le R1⟩
  · rename_i n S1 e
    cases h
    exact ⟨F, ρ, G, fr, S, .rz n, _, R, Fo, e, hx, fun s' es => by cases es⟩
  · cases h
def rSlD (g : Gx) : V → Option Int → Option Int → Hp → VK → Prop := fun x lo hi H Q => ∃ F ρ G S dx d, Rel g F ρ G S H ∧ Pk g F H dx x ∧ slcD dx lo hi = some d ∧ ∀ F' H' v, Le F F' → Rel g F' ρ G S H' → Rep g F' d v → Q v H'
theorem cutD_all {xs : List D} {lo hi : Option Int} (h1 : HT.sIx xs.length 0 lo = 0) (h2 : HT.sIx xs.length xs.length hi = xs.length) : cutD xs lo hi = xs := by
  unfold cutD
  rw [h1, h2]; simp
theorem sl_D (hK : X.K = g.K) : SlR X (rSlD g) := by
  intro pins s σ H x v vl vu lo hi sl Q I rx hs pl pu h
  obtain ⟨F, ρ, G, S, dx, d, R, px, e, q⟩ := h
  cases dx <;> first | cases e | skip
  · cases px with
    | @tup a1 vs1 xs1 p1 r1 =>
      have l1 := r1.length
      refine sl_tupA pins s σ H _ v vl vu lo hi sl Q I rx hs pl pu ⟨_, _, rfl, SqT.of (R.sub _ _ p1), fun z => ?_, fun z p hp => ?_⟩
      · rw [← l1] at z
        exact q F H _ (Le.refl F) R (.tup p1 (by rw [cutD_all z.1 z.2]; exact r1))
      · have le : Le F (upd F p (.tup (cutV vs1 lo hi))) := Le.new (R.fresh hp).1
        exact q _ _ _ le (R.newF hp) (.tup upd_same ((r1.cut lo hi).mono le))
  · obtain ⟨a1, vs1, rfl, p1, r1⟩ := px
    refine sl_list pins s σ H _ v vl vu lo hi sl Q I rx hs pl pu ⟨_, _, rfl, SqL.of p1, fun p hp => ?_⟩
    have le : Le F (upd F p (.lst (cutV vs1 lo hi))) := Le.new (R.fresh hp).1
    exact q _ _ _ le (R.newF hp) (.lst upd_same ((r1.cut lo hi).mono le))
theorem re_slc {a : Expr} {lo hi : Option Expr} {ia il ih : E} {pos p2 : Pos} (hK : X.K = g.K) (ha : PE X a (rdE g L c W ia)) (hl : PO X lo (rdO g L c W il)) (hh : PO X hi (rdO g L c W ih)) : PE X (.Subscript a (.Slice lo hi none p2) pos) (rdE g L c W (.slc ia il ih)) :=
  peImp (pe_slice (sl_D (g := g) hK) ha hl hh) fun σ H Q q => by
    obtain ⟨F, ρ, G, fr, S, r, S', R, Fo, e, hx, hq⟩ := q
    refine stepE (k := fun s S1 => bnd (evE L c il fr S1) fun t S2 => match optS t with
      | some l => bnd (evE L c ih fr S2) fun u S3 => (match optS u with
        | some h => pk1 S3 s fun x => outD S3 (slcD x l h)
        | none => none)
      | none => none) R Fo e hx fun s S1 F1 H1 x h1 le R1 sx => ?_
    refine stepO (k := fun t S2 => match optS t with
      | some l => bnd (evE L c ih fr S2) fun u S3 => (match optS u with
        | some h => pk1 S3 s fun x => outD S3 (slcD x l h)
        | none => none)
      | none => none) R1 (Fo.mono le) h1 (hx.mono le) (fun t S2 h2 => ?_) fun t l S2 F2 H2 h2 eo le2 R2 => ?_
    · try dsimp only at h2
      cases q : optS t with
      | none => rw [q] at h2; cases h2
      | some l => exact ⟨l, rfl⟩
    · try dsimp only at h2
      rw [eo] at h2
      refine stepO (k := fun u S3 => (match optS u with
        | some h => pk1 S3 s fun x => outD S3 (slcD x l h)
        | none => none)) R2 ((Fo.mono le).mono le2) h2 ((hx.mono le).mono le2) (fun u S3 h3 => ?_) fun u hi S3 F3 H3 h3 eu le3 R3 => ?_
      · try dsimp only at h3
        cases q : optS u with
        | none => rw [q] at h3; cases h3
        | some l => exact ⟨l, rfl⟩
      · try dsimp only at h3
        rw [eu] at h3
        obtain ⟨dx, px, h4⟩ := pk1_some h3
        obtain ⟨d, h5, rfl, rfl⟩ := outD_some h4
        exact ⟨F3, ρ, G, _, dx, d, R3, peek_ok R3 ((sx.mono le2).mono le3) px, h5, fun F' H' v le' R' rp => hq _ rfl F' H' v (((le.trans le2).trans le3).trans le') R' rp⟩
/-! ### argument lists, displays -/
theorem ra_nil : PA X [] (rdA g L c W .nil) := paImp pa_nil fun σ H Q q => by
  obtain ⟨F, ρ, G, fr, S, r, S', R, Fo, e, hx, hq⟩ := q
  cases (show some (Xr.vs [], S) = some (r, S') from e)
  exact hq _ rfl F H [] (Le.refl F) R .nil
theorem ra_cons {a : Expr} {es : List Expr} {ia ie : E} (ha : PE X a (rdE g L c W ia)) (hr : PA X es (rdA g L c W ie)) (hs : starEach (a :: es) X.env = (false, eval a X.env) :: starEach es X.env := by rfl) : PA X (a :: es) (rdA g L c W (.cons ia ie)) :=
  paImp (pa_cons ha hr hs) fun σ H Q q => by
    obtain ⟨F, ρ, G, fr, S, r, S', R, Fo, e, hx, hq⟩ := q
    refine stepE (k := fun s S1 => bndL (evE L c ie fr S1) fun l S2 => some (.vs (s :: l), S2)) R Fo e hx fun s S1 F1 H1 x h1 le R1 sx => ?_
    refine stepL (k := fun l S2 => some (.vs (s :: l), S2)) R1 (Fo.mono le) h1 (hx.mono le) fun l S2 F2 H2 vs h2 le2 R2 sl => ?_
    cases h2
    exact hq _ rfl F2 H2 _ (le.trans le2) R2 (.cons (sx.mono le2) sl)
theorem re_tup {es : List Expr} {ie : E} {k : Nat} {pos : Pos} (h : PA X es (rdA g L c W ie)) : PE X (.Tuple es k pos) (rdE g L c W (.tup ie)) := peImp (pe_tup h) fun σ H Q q => by
  obtain ⟨F, ρ, G, fr, S, r, S', R, Fo, e, hx, hq⟩ := q
  have hz := line_eq
  refine stepL (k := fun l S1 => match datL l with
    | some xs => if Nat.ble xs.length 1000000 then some (.v (.d (.tup xs)), S1) else none
    | none => none) R Fo e hx fun l S1 F1 H1 vs h1 le R1 sl => ?_
  try dsimp only at h1
  cases q1 : datL l with
  | none => rw [q1] at h1; cases h1
  | some xs =>
    rw [q1] at h1
    try dsimp only at h1
    split at h1
    · rename_i hb
      cases h1
      have rs := sl.dat q1
      have hb := Nat.le_of_ble_eq_true hb
      have l1 := rs.length
      refine ⟨by omega, fun p hp => ?_⟩
      have le2 : Le F1 (upd F1 p (.tup vs)) := Le.new (R1.fresh hp).1
      exact hq _ rfl _ _ _ (le.trans le2) (R1.newF hp) (.tup upd_same (rs.mono le2))
    · cases h1
/-- a new list that is not frozen yet -/
def rdF (g : Gx) (L : Lw) (c : Ce) (W : WX) (e : E) : TE := fun σ H Q => ∃ F ρ G fr S r S', Rel g F ρ G S H ∧ Fok g F ρ fr σ ∧ evE L c e fr S = some (r, S') ∧ PoX g W F ρ G σ S' r ∧
  ∀ s, r = .v s → ∃ xs, s = .d (.lst xs) ∧ ∀ F' H' p vs, Le F F' → G p = none → Rel g F' ρ (upd G p (.lst vs)) S' H' → Reps g F' xs vs → Q (.ref p) H'
theorem re_of {e : Expr} {i : E} (h : PE X e (rdF g L c W i)) (hi : ∀ fr S s S', evE L c i fr S = some (.v s, S') → ∃ xs, s = .d (.lst xs)) : PE X e (rdE g L c W i) := peImp h fun σ H Q q => by
  obtain ⟨F, ρ, G, fr, S, r, S', R, Fo, e, hx, hq⟩ := q
  refine ⟨F, ρ, G, fr, S, r, S', R, Fo, e, hx, fun s es => ?_⟩
  subst es
  obtain ⟨xs, rfl⟩ := hi _ _ _ _ e
  refine ⟨xs, rfl, fun F' H' p vs le hp R' rs => ?_⟩
  have le2 : Le F' (upd F' p (.lst vs)) := Le.new (R'.oth p _ upd_same).2.1
  refine hq _ rfl (upd F' p (.lst vs)) H' _ (le.trans le2) (R'.frzG upd_same fun a u ea => ?_) (.lst upd_same (rs.mono le2))
  have ne : a ≠ p := fun z => by rw [z, hp] at ea; cases ea
  exact ⟨ne, by rw [upd_ne ne]; exact ea⟩
theorem rf_lst {es : List Expr} {ie : E} {pos : Pos} (h : PA X es (rdA g L c W ie)) : PE X (.List es pos) (rdF g L c W (.lst ie)) := peImp (pe_lst h) fun σ H Q q => by
  obtain ⟨F, ρ, G, fr, S, r, S', R, Fo, e, hx, hq⟩ := q
  have hz := line_eq
  refine stepL (k := fun l S1 => match datL l with
    | some xs => if Nat.ble xs.length 1000000 then some (.v (.d (.lst xs)), S1) else none
    | none => none) R Fo e hx fun l S1 F1 H1 vs h1 le R1 sl => ?_
  try dsimp only at h1
  cases q1 : datL l with
  | none => rw [q1] at h1; cases h1
  | some xs =>
    rw [q1] at h1
    try dsimp only at h1
    split at h1
    · rename_i hb
      cases h1
      have rs := sl.dat q1
      have hb := Nat.le_of_ble_eq_true hb
      have l1 := rs.length
      refine ⟨by omega, fun p hp => ?_⟩
      obtain ⟨ys, ey, hy⟩ := hq _ rfl
      cases ey
      exact hy F1 _ p vs le (R1.fresh hp).2.1 (R1.newG hp) rs
    · cases h1
theorem lst_is {ie : E} {s : Sl} (e : evE L c (.lst ie) fr S = some (.v s, S')) : ∃ xs, s = .d (.lst xs) := by
  have e2 : bndL (evE L c ie fr S) (fun l S1 => match datL l with
    | some xs => if Nat.ble xs.length 1000000 then some (.v (.d (.lst xs)), S1) else none
    | none => none) = some (.v s, S') := e
  unfold bndL at e2
  split at e2
  · dsimp only at e2
    split at e2
    · split at e2
      · cases e2; exact ⟨_, rfl⟩
      · cases e2
    · cases e2
  · cases e2
  · cases e2
theorem re_lst {es : List Expr} {ie : E} {pos : Pos} (h : PA X es (rdA g L c W ie)) : PE X (.List es pos) (rdE g L c W (.lst ie)) := re_of (rf_lst h) fun _ _ _ _ e => lst_is e
end
end Cm

namespace Cm
open PySem PySem.Spec PyProof.Rows L2
/-! ### built-ins -/
def rBlt (g : Gx) (L : Lw) (f : Bf) : List V → Hp → VK → Prop := fun vs H Q => ∃ F ρ G S xs d, Rel g F ρ G S H ∧ Pks g F H xs vs ∧ bltD L f xs = some d ∧ ∀ F' H' v, Le F F' → Rel g F' ρ G S H' → Rep g F' d v → Q v H'
theorem maxI_mem : ∀ (l : List Int), l ≠ [] → maxI l ∈ l
  | [], h => absurd rfl h
  | [i], _ => by simp [maxI]
  | i :: j :: r, _ => by
    have ih := maxI_mem (j :: r) (by simp)
    simp only [maxI]
    split
    · exact List.mem_cons_self
    · exact List.mem_cons_of_mem _ ih
theorem maxI_le : ∀ (l : List Int) (y : Int), y ∈ l → y ≤ maxI l
  | [], _, h => by simp at h
  | [i], y, h => by simp at h; simp [maxI, h]
  | i :: j :: r, y, h => by
    have ih := maxI_le (j :: r)
    simp only [maxI]
    rcases List.mem_cons.mp h with e | e
    · subst e
      split <;> omega
    · have := ih y e
      split <;> omega
section
variable {g : Gx} {L : Lw} {c : Ce} {W : WX} {F G H : Hp} {ρ : List Addr} {S S' : Sto} {fr : Fr} {σ : L2.St} {r : Xr} {X : Cx}
theorem cb_len (hK : X.K = g.K) : CallR X (.builtin "len") (rBlt g L .len) := by
  intro pins s σ H xs us Q I rv h
  obtain ⟨F, ρ, G, S, ds, d, R, pk, e, q⟩ := h
  have fin : ∀ {a : Addr} {n : Nat}, LenV X.K (.ref a) H n → d = .int n → ∃ x m, [V.ref a] = [x] ∧ LenV X.K x H m ∧ Q (.int m) H := fun {a n} h1 h2 => ⟨_, _, rfl, h1, by subst h2; exact q F H _ (Le.refl F) R (.int _)⟩
  cases pk with
  | nil => cases e
  | @cons x v _ _ p pr =>
    cases pr with
    | cons _ _ => cases x <;> cases e
    | nil =>
      cases x <;> first | cases e | skip
      · cases p with
        | tup p1 r1 => exact call_len pins s σ H _ us Q I rv (fin (.inr ⟨_, SqT.of (R.sub _ _ p1), rfl⟩) (by rw [r1.length]))
      · obtain ⟨a1, vs1, rfl, p1, r1⟩ := p
        exact call_len pins s σ H _ us Q I rv (fin (.inl ⟨_, SqL.of p1, rfl⟩) (by rw [r1.length]))
      · cases p with
        | scr p1 => exact call_len pins s σ H _ us Q I rv (fin (.inl ⟨_, by rw [hK]; exact R.sub.sqL p1, rfl⟩) (by rw [List.length_map]))
theorem cb_abs : CallR X (.builtin "abs") (rBlt g L .abs) := by
  intro pins s σ H xs us Q I rv h
  obtain ⟨F, ρ, G, S, ds, d, R, pk, e, q⟩ := h
  cases pk with
  | nil => cases e
  | @cons x v _ _ p pr =>
    cases pr with
    | cons _ _ => cases x <;> cases e
    | nil =>
      cases x <;> first | cases e | skip
      cases p
      exact call_abs pins s σ H _ us Q I rv ⟨_, rfl, q F H _ (Le.refl F) R (.int _)⟩
theorem cb_all (hK : X.K = g.K) (hc : X.calm = true) : CallR X (.builtin "all") (rBlt g L .all) := by
  intro pins s σ H xs us Q I rv h
  obtain ⟨F, ρ, G, S, ds, d, R, pk, e, q⟩ := h
  cases pk with
  | nil => cases e
  | @cons x v _ _ p pr =>
    cases pr with
    | cons _ _ => cases x <;> cases e
    | nil =>
      cases x <;> first | cases e | skip
      rename_i xs
      obtain ⟨a1, vs1, rfl, p1, r1⟩ := p
      replace e : (bolsD xs).map (fun l => D.bl (l.all id)) = some d := e
      cases q1 : bolsD xs with
      | none => rw [q1] at e; cases e
      | some l =>
        rw [q1] at e
        cases e
        have ev := r1.bols q1
        subst ev
        exact cr_all hc pins s σ H _ us Q I rv ⟨_, l, rfl, SqL.of p1, q F H _ (Le.refl F) R (.bl _)⟩
theorem cb_any (hK : X.K = g.K) (hc : X.calm = true) : CallR X (.builtin "any") (rBlt g L .any) := by
  intro pins s σ H xs us Q I rv h
  obtain ⟨F, ρ, G, S, ds, d, R, pk, e, q⟩ := h
  cases pk with
  | nil => cases e
  | @cons x v _ _ p pr =>
    cases pr with
    | cons _ _ => cases x <;> cases e
    | nil =>
      cases x <;> first | cases e | skip
      rename_i xs
      obtain ⟨a1, vs1, rfl, p1, r1⟩ := p
      replace e : (bolsD xs).map (fun l => D.bl (l.any id)) = some d := e
      cases q1 : bolsD xs with
      | none => rw [q1] at e; cases e
      | some l =>
        rw [q1] at e
        cases e
        have ev := r1.bols q1
        subst ev
        exact cr_any hc pins s σ H _ us Q I rv ⟨_, l, rfl, SqL.of p1, q F H _ (Le.refl F) R (.bl _)⟩
theorem cb_sum (hK : X.K = g.K) (hc : X.calm = true) : CallR X (.builtin "sum") (rBlt g L .sum) := by
  intro pins s σ H xs us Q I rv h
  obtain ⟨F, ρ, G, S, ds, d, R, pk, e, q⟩ := h
  cases pk with
  | nil => cases e
  | @cons x v _ _ p pr =>
    cases pr with
    | cons _ _ => cases x <;> cases e
    | nil =>
      cases x <;> first | cases e | skip
      rename_i xs
      obtain ⟨a1, vs1, rfl, p1, r1⟩ := p
      replace e : (intsD xs).map (fun l => D.int l.sum) = some d := e
      cases q1 : intsD xs with
      | none => rw [q1] at e; cases e
      | some l =>
        rw [q1] at e
        cases e
        have ev := r1.ints q1
        subst ev
        exact cr_sum hc pins s σ H _ us Q I rv ⟨_, l, rfl, SqL.of p1, q F H _ (Le.refl F) R (.int _)⟩
theorem cb_max (hK : X.K = g.K) (hc : X.calm = true) : CallR X (.builtin "max") (rBlt g L .max) := by
  intro pins s σ H xs us Q I rv h
  obtain ⟨F, ρ, G, S, ds, d, R, pk, e, q⟩ := h
  cases pk with
  | nil => cases e
  | @cons x v _ _ p pr =>
    cases pr with
    | cons _ _ => cases x <;> cases e
    | nil =>
      cases x <;> first | cases e | skip
      rename_i xs
      obtain ⟨a1, vs1, rfl, p1, r1⟩ := p
      replace e : (intsD xs).bind (fun l => if l.isEmpty = true then none else some (D.int (maxI l))) = some d := e
      cases q1 : intsD xs with
      | none => rw [q1] at e; cases e
      | some l =>
        rw [q1] at e
        replace e : (if l.isEmpty = true then none else some (D.int (maxI l))) = some d := e
        split at e
        · cases e
        · rename_i hne
          cases e
          have ev := r1.ints q1
          subst ev
          have hl : l ≠ [] := fun z => hne (by rw [z]; rfl)
          refine cr_max hc pins s σ H _ us Q I rv ⟨_, l, rfl, SqL.of p1, List.length_pos_iff.mpr hl, fun m hm hle => ?_⟩
          have e2 : m = maxI l := Int.le_antisymm (maxI_le l m hm) (hle _ (maxI_mem l hl))
          subst e2
          exact q F H _ (Le.refl F) R (.int _)
theorem cb_tuple (hK : X.K = g.K) : CallR X (.type "tuple") (rBlt g L .tuple) := by
  intro pins s σ H xs us Q I rv h
  obtain ⟨F, ρ, G, S, ds, d, R, pk, e, q⟩ := h
  cases pk with
  | nil => cases e
  | @cons x v _ _ p pr =>
    cases pr with
    | cons _ _ => cases x <;> cases e
    | nil =>
      cases x <;> first | cases e | skip
      · cases p with
        | tup p1 r1 => exact call_tuple_of pins s σ H _ us Q I rv ⟨_, _, rfl, .inr ⟨SqT.of (R.sub _ _ p1), q F H _ (Le.refl F) R (.tup p1 r1)⟩⟩
      · obtain ⟨a1, vs1, rfl, p1, r1⟩ := p
        refine call_tuple_of pins s σ H _ us Q I rv ⟨_, _, rfl, .inl ⟨SqL.of p1, fun p hp => ?_⟩⟩
        have le : Le F (upd F p (.tup vs1)) := Le.new (R.fresh hp).1
        exact q _ _ _ le (R.newF hp) (.tup upd_same (r1.mono le))
theorem cb_list (hK : X.K = g.K) : CallR X (.type "list") (rBlt g L .list) := by
  intro pins s σ H xs us Q I rv h
  obtain ⟨F, ρ, G, S, ds, d, R, pk, e, q⟩ := h
  cases pk with
  | nil => cases e
  | @cons x v _ _ p pr =>
    cases pr with
    | cons _ _ => cases x <;> cases e
    | nil =>
      cases x <;> first | cases e | skip
      · cases p with
        | @tup a1 vs1 _ p1 r1 =>
          refine call_list_of pins s σ H _ us Q I rv ⟨_, _, rfl, .inr (SqT.of (R.sub _ _ p1)), fun p hp => ?_⟩
          have le : Le F (upd F p (.lst vs1)) := Le.new (R.fresh hp).1
          exact q _ _ _ le (R.newF hp) (.lst upd_same (r1.mono le))
      · obtain ⟨a1, vs1, rfl, p1, r1⟩ := p
        refine call_list_of pins s σ H _ us Q I rv ⟨_, _, rfl, .inl (SqL.of p1), fun p hp => ?_⟩
        have le : Le F (upd F p (.lst vs1)) := Le.new (R.fresh hp).1
        exact q _ _ _ le (R.newF hp) (.lst upd_same (r1.mono le))
theorem cb_int : CallR X (.type "int") (rBlt g L .int) := by
  intro pins s σ H xs us Q I rv h
  obtain ⟨F, ρ, G, S, ds, d, R, pk, e, q⟩ := h
  cases pk with
  | nil => cases e
  | @cons x v _ _ p pr =>
    cases pr with
    | cons _ _ => cases x <;> cases e
    | nil =>
      cases x <;> first | cases e | skip
      · cases p
        exact call_int1 pins s σ H _ us Q I rv (.inr ⟨_, rfl, q F H _ (Le.refl F) R (.int _)⟩)
      · cases p
        exact call_int1 pins s σ H _ us Q I rv (.inl ⟨_, rfl, q F H _ (Le.refl F) R (.int _)⟩)
theorem blt_rd {f : Bf} {ie : E} {Q : VK} {H : Hp} (q : rdE g L c W (.blt f ie) σ H Q) : tCB (rBlt g L f) (rdA g L c W ie) σ H Q := by
  obtain ⟨F, ρ, G, fr, S, r, S', R, Fo, e, hx, hq⟩ := q
  refine stepL (k := fun l S1 => match peekL S1 l with
    | some xs => outD S1 (bltD L f xs)
    | none => none) R Fo e hx fun l S1 F1 H1 vs h1 le R1 sl => ?_
  try dsimp only at h1
  cases q1 : peekL S1 l with
  | none => rw [q1] at h1; cases h1
  | some xs =>
    rw [q1] at h1
    obtain ⟨d, h5, rfl, rfl⟩ := outD_some h1
    exact ⟨F1, ρ, G, _, xs, d, R1, peekL_ok R1 sl q1, h5, fun F' H' v le' R' rp => hq _ rfl F' H' v (le.trans le') R' rp⟩
theorem re_bltF {f : Bf} {id : String} {x : Str} {p pos : Pos} {a : Expr} {es : List Expr} {ie : E} (hc : CallR X (.builtin id) (rBlt g L f)) (hg : Gl X x) (hm : X.mg x = none) (hv : bootBuiltins x = some (.builtin id)) (ha : PA X (a :: es) (rdA g L c W ie)) (hn : x ≠ "__name__" := by decide) (hdb : (x == ("__debug__" : Str)) = false := by decide)
    (he : starEach (a :: es) X.env = (false, eval a X.env) :: starEach es X.env := by rfl) (hpl : (backTo pos (starEach es X.env)).any (·.1) = false := by rfl) : PE X (.Call (.Name x p) (a :: es) [] pos) (rdE g L c W (.blt f ie)) :=
  peImp (pe_callB hc hg hm hv ha hn hdb he hpl) fun σ H Q q => blt_rd q
theorem re_bltT {f : Bf} {id : String} {x : Str} {p pos : Pos} {a : Expr} {es : List Expr} {ie : E} (hc : CallR X (.type id) (rBlt g L f)) (hg : Gl X x) (hm : X.mg x = none) (hv : bootBuiltins x = some (.type id)) (ha : PA X (a :: es) (rdA g L c W ie)) (hn : x ≠ "__name__" := by decide) (hdb : (x == ("__debug__" : Str)) = false := by decide)
    (he : starEach (a :: es) X.env = (false, eval a X.env) :: starEach es X.env := by rfl) (hpl : (backTo pos (starEach es X.env)).any (·.1) = false := by rfl) : PE X (.Call (.Name x p) (a :: es) [] pos) (rdE g L c W (.blt f ie)) :=
  peImp (pe_callTy hc hg hm hv ha hn hdb he hpl) fun σ H Q q => blt_rd q
/-! ### own defs -/
def spF (g : Gx) (c : Ce) (f : Nat) : Sp := fun vs H Q Ex => ∃ F ρ G S as r S', Rel g F ρ G S H ∧ SlVs g F ρ as vs ∧ c f as S = some (r, S') ∧
  (∀ x, r = .ok x → ∀ F' H' v, Le F F' → Rel g F' ρ G S' H' → Rep g F' x v → Q v H') ∧ (∀ k, r = .rz k → ∀ F' H', Le F F' → Rel g F' ρ G S' H' → Ex (.ref (g.C k)) none H')
/-- the def of number f stands under the name x -/
def FnAt (g : Gx) (P : Program) (w : World) (mg : Str → Option Value) (base : Heap) (n : Nat) (c : Ce) (x : Str) (f : Nat) : Prop :=
  ∃ fa fd ps, mg x = some (.ref fa) ∧ PySem.W.keepIn g.K (.ref fa) = true ∧ Binds g.K fd ps [] ∧ FnOk P w g.K mg base (L2.CX P w) n fa fd ps (spF g c f)
theorem call_rd {f : Nat} {ie : E} {Q : VK} {H : Hp} (q : rdE g L c W (.call f ie) σ H Q) : tCallS (spF g c f) (WE W) (rdA g L c W ie) σ H Q := by
  obtain ⟨F, ρ, G, fr, S, r, S', R, Fo, e, hx, hq⟩ := q
  refine stepL (k := fun l S1 => match c f l S1 with
    | some (.ok x, S2) => some (.v (.d x), S2)
    | some (.rz k, S2) => some (.rz k, S2)
    | none => none) R Fo e hx fun l S1 F1 H1 vs h1 le R1 sl => ?_
  try dsimp only at h1
  cases q1 : c f l S1 with
  | none => rw [q1] at h1; cases h1
  | some z =>
    obtain ⟨cr, S2⟩ := z
    rw [q1] at h1
    cases cr with
    | ok x =>
      cases h1
      exact ⟨F1, ρ, G, S1, l, .ok x, _, R1, sl, q1, fun y ey F' H' v le' R' rp => (by cases ey; exact hq _ rfl F' H' v (le.trans le') R' rp), fun k ek => (by cases ek)⟩
    | rz k =>
      cases h1
      exact ⟨F1, ρ, G, S1, l, .rz k, _, R1, sl, q1, fun y ey => (by cases ey), fun k' ek F' H' le' R' => by cases ek; exact hx F' H' (le.trans le') R'⟩
theorem re_call {n : Nat} {f : Nat} {x : Str} {p pos : Pos} {a : Expr} {es : List Expr} {ie : E} (hK : X.K = g.K) (tk : Takes X W) (Fa : FnAt g X.prog X.w X.mg X.base n c x f) (hr : Room n X.A) (hg : Gl X x) (ha : PA X (a :: es) (rdA g L c W ie)) (hdb : (x == ("__debug__" : Str)) = false := by decide)
    (he : starEach (a :: es) X.env = (false, eval a X.env) :: starEach es X.env := by rfl) (hpl : (backTo pos (starEach es X.env)).any (·.1) = false := by rfl) : PE X (.Call (.Name x p) (a :: es) [] pos) (rdE g L c W (.call f ie)) := by
  obtain ⟨fa, fd, ps, hm, hk, hb, Fo⟩ := Fa
  rw [← hK] at hk hb Fo
  exact peImp (pe_callS Fo hr hg hm hk hb (fun σ => passAt tk σ) ha hdb he hpl) fun σ H Q q => call_rd q
end
/-! ### targets -/
def slots : Tg → List Nat
  | .nm i => [i]
  | .nil => []
  | .cons a b => slots a ++ slots b
def tlen : Tg → Nat
  | .nm _ => 0
  | .nil => 0
  | .cons _ b => tlen b + 1
def isCh : Tg → Bool
  | .nm _ => false
  | .nil => true
  | .cons _ b => isCh b
/-- only these slots differ -/
def Out (ss : List Nat) (σ σ' : L2.St) : Prop := σ'.length = σ.length ∧ ∀ i, i ∉ ss → σ'[i]? = σ[i]?
theorem Out.refl (ss : List Nat) (σ : L2.St) : Out ss σ σ := ⟨rfl, fun _ _ => rfl⟩
theorem bind_lst : ∀ (t : Tg) (ds : List D) (fr : Fr), isCh t = true → bindT t (.lst ds) fr = bindT t (.tup ds) fr
  | .nm _, _, _, h => by cases h
  | .nil, [], _, _ => rfl
  | .nil, _ :: _, _, _ => rfl
  | .cons _ _, [], _, _ => rfl
  | .cons a b, x :: xs, fr, h => by
    show (bindT a x fr).bind (bindT b (.lst xs)) = (bindT a x fr).bind (bindT b (.tup xs))
    congr 1
    funext fr2
    exact bind_lst b xs fr2 h
theorem bind_len : ∀ (t : Tg) (ds : List D) (fr fr' : Fr), isCh t = true → bindT t (.tup ds) fr = some fr' → ds.length = tlen t
  | .nm _, _, _, _, h, _ => by cases h
  | .nil, [], _, _, _, _ => rfl
  | .nil, _ :: _, _, _, _, e => by cases e
  | .cons _ _, [], _, _, _, e => by cases e
  | .cons a b, x :: xs, fr, fr', h, e => by
    have e2 : (bindT a x fr).bind (bindT b (.tup xs)) = some fr' := e
    cases q : bindT a x fr with
    | none => rw [q] at e2; cases e2
    | some fr1 =>
      rw [q] at e2
      exact congrArg Nat.succ (bind_len b xs fr1 fr' h e2)
section
variable {g : Gx} {F G H : Hp} {ρ : List Addr} {fr : Fr} {σ : L2.St} {X : Cx}
theorem Fok.set {s : Sl} {v : V} (k : Fok g F ρ fr σ) (i : Nat) (h : SlV g F ρ s v) : Fok g F ρ (fr.set i s) (σ.set i (some v)) := by
  refine ⟨by simpa using k.len, fun j t e => ?_⟩
  by_cases hj : i = j
  · subst hj
    by_cases hl : i < fr.length
    · have e2 : (fr.set i s)[i]? = some t := e
      rw [List.getElem?_set_self hl] at e2
      cases e2
      exact .inr ⟨v, List.getElem?_set_self (by rw [← k.len]; exact hl), h⟩
    · have e2 : (fr.set i s)[i]? = some t := e
      rw [List.getElem?_eq_none (by simpa using hl)] at e2
      cases e2
  · have e2 : (fr.set i s)[j]? = some t := e
    rw [List.getElem?_set_ne hj] at e2
    rw [List.getElem?_set_ne hj]
    exact k.at_ j t e2
theorem Fok.setUn (k : Fok g F ρ fr σ) (i : Nat) (o : Option V) : Fok g F ρ (fr.set i .un) (σ.set i o) := by
  refine ⟨by simpa using k.len, fun j t e => ?_⟩
  by_cases hj : i = j
  · subst hj
    by_cases hl : i < fr.length
    · have e2 : (fr.set i .un)[i]? = some t := e
      rw [List.getElem?_set_self hl] at e2
      cases e2
      exact .inl rfl
    · have e2 : (fr.set i .un)[i]? = some t := e
      rw [List.getElem?_eq_none (by simpa using hl)] at e2
      cases e2
  · have e2 : (fr.set i .un)[j]? = some t := e
    rw [List.getElem?_set_ne hj] at e2
    rw [List.getElem?_set_ne hj]
    exact k.at_ j t e2
theorem Fok.wipe (k : Fok g F ρ fr σ) : ∀ ws : List Nat, Fok g F ρ (wipeS fr ws) (L2.wipe σ ws)
  | [] => k
  | v :: vs => (Fok.wipe k vs).setUn v none
def rdG (g : Gx) (t : Tg) : TG := fun v σ H Q => ∃ F ρ fr d fr', Le F H ∧ Fok g F ρ fr σ ∧ Rep g F d v ∧ bindT t d fr = some fr' ∧ ∀ σ', Fok g F ρ fr' σ' → Out (slots t) σ σ' → Q σ' H
def rdGs (g : Gx) (t : Tg) : TGs := fun vs σ H Q => ∃ F ρ fr ds fr', Le F H ∧ Fok g F ρ fr σ ∧ Reps g F ds vs ∧ bindT t (.tup ds) fr = some fr' ∧ ∀ σ', Fok g F ρ fr' σ' → Out (slots t) σ σ' → Q σ' H
theorem pgImp {e : Expr} {t t' : TG} (h : PG X e t) (hi : ∀ v σ H Q, t' v σ H Q → t v σ H Q) : PG X e t' := ⟨fun pins s σ H v u Q I r q => h.run pins s σ H v u Q I r (hi v σ H Q q)⟩
theorem pgsImp {e : List Expr} {t t' : TGs} (h : PGs X e t) (hi : ∀ v σ H Q, t' v σ H Q → t v σ H Q) : PGs X e t' := ⟨fun pins s σ H v u Q I r q => h.run pins s σ H v u Q I r (hi v σ H Q q)⟩
theorem pgOr {e : Expr} {t t' : TG} (h : PG X e t) (h' : PG X e t') : PG X e (fun v σ H Q => t v σ H Q ∨ t' v σ H Q) := ⟨fun pins s σ H v u Q I r q => q.elim (h.run pins s σ H v u Q I r) (h'.run pins s σ H v u Q I r)⟩
theorem Out.set (σ : L2.St) (i : Nat) (o : Option V) : Out [i] σ (σ.set i o) := ⟨by simp, fun j hj => List.getElem?_set_ne (fun z => hj (by simp [z]))⟩
theorem rg_name {e : Expr} {i : Nat} (h : PG X e (gName i)) : PG X e (rdG g (.nm i)) := pgImp h fun v σ H Q q => by
  obtain ⟨F, ρ, fr, d, fr', le, k, rp, e, hq⟩ := q
  cases (show some (fr.set i (.d d)) = some fr' from e)
  exact hq _ (k.set i rp) (Out.set σ i _)
theorem rgs_nil : PGs X [] (rdGs g .nil) := pgsImp pgs_nil fun vs σ H Q q => by
  obtain ⟨F, ρ, fr, ds, fr', le, k, rp, e, hq⟩ := q
  cases ds with
  | nil =>
    cases rp
    cases (show some fr = some fr' from e)
    exact ⟨rfl, hq σ k (Out.refl _ σ)⟩
  | cons x xs => cases e
theorem rgs_cons {a : Expr} {es : List Expr} {ta tb : Tg} (ha : PG X a (rdG g ta)) (hb : PGs X es (rdGs g tb)) (hs : (assignEach (a :: es) X.env).map (·.2) = assign a X.env :: (assignEach es X.env).map (·.2) := by rfl) : PGs X (a :: es) (rdGs g (.cons ta tb)) :=
  pgsImp (pgs_cons ha hb hs) fun vs σ H Q q => by
    obtain ⟨F, ρ, fr, ds, fr', le, k, rp, e, hq⟩ := q
    cases rp with
    | nil => cases e
    | @cons x v xs vs' r1 r2 =>
      replace e : (bindT ta x fr).bind (bindT tb (.tup xs)) = some fr' := e
      cases q1 : bindT ta x fr with
      | none => rw [q1] at e; cases e
      | some fr1 =>
        rw [q1] at e
        refine ⟨v, vs', rfl, F, ρ, fr, x, fr1, le, k, r1, q1, fun σ1 k1 o1 => ⟨F, ρ, fr1, xs, fr', le, k1, r2, e, fun σ2 k2 o2 => hq σ2 k2 ⟨o2.1.trans o1.1, fun i hi => ?_⟩⟩⟩
        have h1 : i ∉ slots ta := fun z => hi (List.mem_append_left _ z)
        have h2 : i ∉ slots tb := fun z => hi (List.mem_append_right _ z)
        exact (o2.2 i h2).trans (o1.2 i h1)
theorem rg_tup {es : List Expr} {k : Nat} {pos : Pos} {t : Tg} (hK : X.K = g.K) (hc : X.calm = true) (h : PGs X es (rdGs g t)) (ht : isCh t = true := by rfl) (hn : (assignEach es X.env).length = tlen t := by rfl) (hst : (assignEach es X.env).findIdx? (·.1) = none := by rfl) : PG X (.Tuple es k pos) (rdG g t) :=
  pgImp (pgOr (pg_tup hc h hn hst) (pg_unl hc h hn hst)) fun v σ H Q q => by
    obtain ⟨F, ρ, fr, d, fr', le, k, rp, e, hq⟩ := q
    have key : ∀ ds, d = .tup ds ∨ d = .lst ds → bindT t (.tup ds) fr = some fr' := fun ds hd => by
      rcases hd with rfl | rfl
      · exact e
      · rw [← bind_lst t ds fr ht]; exact e
    cases rp with
    | @tup a vs ds p r =>
      have e2 := key ds (.inl rfl)
      exact .inl ⟨a, vs, rfl, SqT.of (le _ _ p), by rw [← r.length]; exact bind_len t ds fr fr' ht e2, F, ρ, fr, ds, fr', le, k, r, e2, hq⟩
    | @lst a vs ds p r =>
      have e2 := key ds (.inr rfl)
      exact .inr ⟨a, vs, rfl, SqL.of (le _ _ p), by rw [← r.length]; exact bind_len t ds fr fr' ht e2, F, ρ, fr, ds, fr', le, k, r, e2, hq⟩
    | _ => cases t <;> first | (cases e; done) | (cases ht; done)
end
end Cm

namespace Cm
open PySem PySem.Spec PyProof.Rows L2
/-! ### what is walked -/
def ItOk (g : Gx) (F : Hp) (xs : List D) (J : It) : Prop := ∀ (i : Nat) (H : Hp), Le F H → (∀ d, xs[i]? = some d → J.go i H ∧ ∀ x H', J.yld i H x H' → H' = H ∧ Rep g F d x) ∧ (xs.length ≤ i → J.stop i H)
def rdI (g : Gx) (L : Lw) (c : Ce) (W : WX) (e : E) : TI := fun σ H R => ∃ F ρ G fr S r S', Rel g F ρ G S H ∧ Fok g F ρ fr σ ∧ evE L c e fr S = some (r, S') ∧ PoX g W F ρ G σ S' r ∧
  ∀ s, r = .v s → ∃ x xs, s = .d x ∧ seqD x = some xs ∧ ∀ F' H' J, Le F F' → Rel g F' ρ G S' H' → ItOk g F' xs J → R J H'
section
variable {g : Gx} {L : Lw} {c : Ce} {W : WX} {F G H : Hp} {ρ : List Addr} {S S' : Sto} {fr : Fr} {σ : L2.St} {r : Xr} {X : Cx} {tg : Expr}
theorem piImp {e : Expr} {t t' : TI} (h : PI X tg e t) (hi : ∀ σ H R, t' σ H R → t σ H R) : PI X tg e t' := ⟨fun pins s σ H R I q => h.run pins s σ H R I (hi σ H R q)⟩
/-- a list or a tuple -/
theorem pi_seq {l : Expr} {tl : TE} (hl : PE X l tl) : PI X tg l (fun σ H R => tl σ H fun x H1 => ∃ a, x = .ref a ∧ (((∃ xs, SqL X.K H1 a xs) ∧ R (Itl X.K a) H1) ∨ ((∃ xs, SqT X.K H1 a xs) ∧ R (Itt X.K a) H1))) := by
  constructor
  intro pins s σ H R I h
  refine thn (hl.run pins s σ H _ I h) ?_
  rintro v s1 ⟨x, H1, I1, r1, a, rfl, q⟩
  cases r1
  have new : ∀ b ∈ [s1.heap.objs.size], FpOk X pins H1 b := by
    intro b hb
    obtain rfl : b = s1.heap.objs.size := by simpa using hb
    exact I1.fpOk (Nat.le_refl _) (I1.hok.fresh (Nat.le_refl _))
  rcases q with ⟨⟨xs, hq⟩, q⟩ | ⟨⟨xs, hq⟩, q⟩
  · obtain ⟨its, _, p, _⟩ := I1.list hq
    exact wpAny_pyIter_list p.isList ⟨_, [s1.heap.objs.size], _, _, H1, rfl, I1.kept (t' := s1.toks) (fun b o z => Heap.get?_push_of_some _ z), turn_list a _, ⟨_, Heap.get?_push_size _ rfl, rfl, rfl⟩, new, q⟩
  · obtain ⟨its, _, p, _⟩ := I1.tuple hq
    exact wpAny_pyIter_tuple p ⟨_, [s1.heap.objs.size], _, _, H1, rfl, I1.kept (t' := s1.toks) (fun b o z => Heap.get?_push_of_some _ z), turn_tuple a _, ⟨_, Heap.get?_push_size _ rfl, rfl, rfl⟩, new, q⟩
theorem sqL_one {K : PySem.W.Frag} {H : Hp} {a : Addr} {xs ys : List V} (h : H a = some (.lst xs)) (q : Rd H a (.lst ys)) : ys = xs := by
  rcases q with q | ⟨o, q⟩
  · rw [h] at q; cases q; rfl
  · rw [h] at q; cases q
theorem it_list {K : PySem.W.Frag} {a : Addr} {vs : List V} {xs : List D} (hK : ∀ H, H a = some (.lst vs) → ∀ ys, SqL K H a ys → ys = vs) (h : F a = some (.lst vs)) (rs : Reps g F xs vs) : ItOk g F xs (Itl K a) := fun i H le => by
  have ha := le _ _ h
  refine ⟨fun d hd => ?_, fun hi => ⟨vs, SqL.of ha, by rw [← rs.length]; exact hi⟩⟩
  obtain ⟨v, h1, h2⟩ := rs.get hd
  refine ⟨⟨vs, v, SqL.of ha, h1⟩, fun x H' y => ⟨y.1, ?_⟩⟩
  have := y.2 vs (SqL.of ha)
  rw [h1] at this
  cases this
  exact h2
theorem it_tup {K : PySem.W.Frag} {a : Addr} {vs : List V} {xs : List D} (h : F a = some (.tup vs)) (rs : Reps g F xs vs) : ItOk g F xs (Itt K a) := fun i H le => by
  have ha := le _ _ h
  refine ⟨fun d hd => ?_, fun hi => ⟨vs, SqT.of ha, by rw [← rs.length]; exact hi⟩⟩
  obtain ⟨v, h1, h2⟩ := rs.get hd
  refine ⟨⟨vs, v, SqT.of ha, h1⟩, fun x H' y => ⟨y.1, ?_⟩⟩
  have := y.2 vs (SqT.of ha)
  rw [h1] at this
  cases this
  exact h2
theorem it_list' {K : PySem.W.Frag} {a : Addr} {vs : List V} {xs : List D} (h : F a = some (.lst vs)) (rs : Reps g F xs vs) : ItOk g F xs (Itl K a) := fun i H le => by
  have ha := le _ _ h
  refine ⟨fun d hd => ?_, fun hi => ⟨vs, SqL.of ha, by rw [← rs.length]; exact hi⟩⟩
  obtain ⟨v, h1, h2⟩ := rs.get hd
  refine ⟨⟨vs, v, SqL.of ha, h1⟩, fun x H' y => ⟨y.1, ?_⟩⟩
  have := y.2 vs (SqL.of ha)
  rw [h1] at this
  cases this
  exact h2
theorem ri_seq {l : Expr} {i : E} (h : PE X l (rdE g L c W i)) : PI X tg l (rdI g L c W i) := piImp (pi_seq h) fun σ H R q => by
  obtain ⟨F, ρ, G, fr, S, r, S', Rl, Fo, e, hx, hq⟩ := q
  refine ⟨F, ρ, G, fr, S, r, S', Rl, Fo, e, hx, fun s es F' H' v le R' sv => ?_⟩
  obtain ⟨x, xs, rfl, e2, hk⟩ := hq s es
  replace sv : Rep g F' x v := sv
  cases sv <;> first | cases e2 | skip
  · rename_i a vs p rs
    exact ⟨_, rfl, .inr ⟨⟨_, SqT.of (R'.sub _ _ p)⟩, hk F' H' _ le R' (it_tup p rs)⟩⟩
  · rename_i a vs p rs
    exact ⟨_, rfl, .inl ⟨⟨_, SqL.of (R'.sub _ _ p)⟩, hk F' H' _ le R' (it_list' p rs)⟩⟩
theorem it_rng (lo hi : Int) : ItOk g F (rngL lo hi) (Itr lo (hi - lo).toNat) := fun i H le => by
  have hl : (rngL lo hi).length = (hi - lo).toNat := by simp [rngL]
  refine ⟨fun d hd => ?_, fun h => by rw [hl] at h; exact h⟩
  have hi' : i < (hi - lo).toNat := by
    have := (List.getElem?_eq_some_iff.mp hd).1
    rw [hl] at this
    exact this
  refine ⟨hi', fun x H' y => ⟨y.1, ?_⟩⟩
  have e2 : d = .int (lo + (i : Nat)) := by
    unfold rngL at hd
    rw [List.getElem?_map, List.getElem?_range hi'] at hd
    exact (Option.some.inj hd).symm
  rw [y.2, e2]
  exact .int _
theorem mid_ok {i : Int} (h : mid i = true) : -1000000 ≤ i ∧ i ≤ 1000000 := by
  unfold mid at h
  simpa only [Bool.and_eq_true, decide_eq_true_eq] using h
theorem ri_rng1 {a : Expr} {ia : E} {p pos : Pos} (hg : Gl X "range") (hm : X.mg "range" = none) (ha : PE X a (rdE g L c W ia)) (h1 : starEach [a] X.env = (false, eval a X.env) :: starEach [] X.env := by rfl) (hs : starEach [a] X.env = [(false, eval a X.env)] := by rfl) : PI X tg (.Call (.Name "range" p) [a] [] pos) (rdI g L c W (.rng1 ia)) :=
  piImp (pi_range1 hg hm (pa_cons ha pa_nil h1) hs) fun σ H R q => by
    obtain ⟨F, ρ, G, fr, S, r, S', Rl, Fo, e, hx, hq⟩ := q
    refine stepE (k := fun s S1 => match s with
      | .d (.int j) => if mid j then some (.v (.d (.lst (rngL 0 j))), S1) else none
      | _ => none) Rl Fo e hx fun s S1 F1 H1 v h1 le R1 sv => ?_
    try dsimp only at h1
    split at h1
    · rename_i j
      split at h1
      · rename_i hb
        cases h1
        obtain ⟨x, xs, ex, e2, hk⟩ := hq _ rfl
        cases ex
        cases e2
        obtain ⟨b1, b2⟩ := mid_ok hb
        cases (show Rep g F1 (.int j) v from sv)
        refine ⟨j, rfl, by omega, by omega, ?_⟩
        have := it_rng (g := g) (F := F1) 0 j
        rw [Int.sub_zero] at this
        exact hk F1 H1 _ le R1 this
      · cases h1
    · cases h1
theorem ri_rng2 {a b : Expr} {ia ib : E} {p pos : Pos} (hg : Gl X "range") (hm : X.mg "range" = none) (ha : PE X a (rdE g L c W ia)) (hb : PE X b (rdE g L c W ib)) (h1 : starEach [a, b] X.env = (false, eval a X.env) :: starEach [b] X.env := by rfl) (h2 : starEach [b] X.env = (false, eval b X.env) :: starEach [] X.env := by rfl)
    (hs : starEach [a, b] X.env = [(false, eval a X.env), (false, eval b X.env)] := by rfl) (hs2 : starEach [b] X.env = [(false, eval b X.env)] := by rfl) : PI X tg (.Call (.Name "range" p) [a, b] [] pos) (rdI g L c W (.rng2 ia ib)) :=
  piImp (pi_range2 hg hm (pa_cons ha (pa_cons hb pa_nil h2) h1) hs hs2) fun σ H R q => by
    obtain ⟨F, ρ, G, fr, S, r, S', Rl, Fo, e, hx, hq⟩ := q
    refine step2 (k := fun s t S2 => match s, t with
      | .d (.int i), .d (.int j) => if mid i && mid j then some (.v (.d (.lst (rngL i j))), S2) else none
      | _, _ => none) Rl Fo e hx fun s t S1 F1 H1 v w h1 le R1 sv sw => ?_
    try dsimp only at h1
    split at h1
    · rename_i i j
      split at h1
      · rename_i hb
        cases h1
        obtain ⟨x, xs, ex, e2, hk⟩ := hq _ rfl
        cases ex
        cases e2
        obtain ⟨hb1, hb2⟩ := Bool.and_eq_true_iff.mp hb
        obtain ⟨b1, b2⟩ := mid_ok hb1
        obtain ⟨b3, b4⟩ := mid_ok hb2
        cases (show Rep g F1 (.int i) v from sv)
        cases (show Rep g F1 (.int j) w from sw)
        exact ⟨i, j, rfl, ⟨by omega, by omega, by omega, by omega⟩, hk F1 H1 _ le R1 (it_rng i j)⟩
      · cases h1
    · cases h1
/-! ### comprehensions -/
/-- nothing is let out -/
def W0 : WX := fun _ _ _ _ => False
theorem stepI {a : E} {k : Sl → Sto → Option (Xr × Sto)} {R : It → Hp → Prop} (Rl : Rel g F ρ G S H) (Fo : Fok g F ρ fr σ) (h : bnd (evE L c a fr S) k = some (r, S')) (hx : PoX g W F ρ G σ S' r) (hs : ∀ s S1, k s S1 = some (r, S') → ∃ x xs, s = .d x ∧ seqD x = some xs)
    (hk : ∀ x xs S1 F1 H1 J, k (.d x) S1 = some (r, S') → seqD x = some xs → Le F F1 → Rel g F1 ρ G S1 H1 → ItOk g F1 xs J → R J H1) : rdI g L c W a σ H R := by
  unfold bnd at h
  split at h
  · rename_i s S1 e
    refine ⟨F, ρ, G, fr, S, .v s, S1, Rl, Fo, e, trivial, fun s' es => ?_⟩
    cases es
    obtain ⟨x, xs, rfl, e2⟩ := hs s S1 h
    exact ⟨x, xs, rfl, e2, fun F1 H1 J le R1 ok => hk x xs S1 F1 H1 J h e2 le R1 ok⟩
  · rename_i n S1 e
    cases h
    exact ⟨F, ρ, G, fr, S, .rz n, _, Rl, Fo, e, hx, fun s' es => by cases es⟩
  · cases h
theorem wipe_get (σ : L2.St) (i : Nat) : ∀ ws : List Nat, (L2.wipe σ ws)[i]? = if i ∈ ws then (if i < σ.length then some none else none) else σ[i]?
  | [] => by simp [L2.wipe]
  | w :: ws => by
    unfold L2.wipe
    by_cases h : w = i
    · subst h
      by_cases hl : w < σ.length
      · rw [List.getElem?_set_self (by rw [wipe_length]; exact hl)]; simp [hl]
      · rw [List.getElem?_eq_none (by simpa [wipe_length] using hl)]; simp [hl]
    · rw [List.getElem?_set_ne h, wipe_get σ i ws]
      have : i ≠ w := fun z => h z.symm
      simp [this]
theorem wipe_out' {ws ss : List Nat} {σ σ2 : L2.St} (hs : ∀ i ∈ ss, i ∈ ws) (o : Out ss (L2.wipe σ ws) σ2) : L2.wipe σ2 ws = L2.wipe σ ws := by
  apply List.ext_getElem?
  intro i
  have hl : σ2.length = σ.length := o.1.trans (wipe_length σ ws)
  rw [wipe_get, wipe_get]
  by_cases hi : i ∈ ws
  · simp [hi, hl]
  · simp only [hi, if_false]
    rw [o.2 i (fun z => hi (hs i z)), wipe_get]
    simp [hi]
/-- one turn of a comprehension -/
def turnC (L : Lw) (c : Ce) (ws : List Nat) (t : Tg) (d e : E) (fr : Fr) : D → Sto → Option (Option D × Sto) := fun x S => match bindT t x (wipeS fr ws) with
  | some fr2 => (match evE L c d fr2 S with
    | some (.v (.d (.bl true)), S1) => (match evE L c e fr2 S1 with
      | some (.v (.d y), S2) => some (some y, S2)
      | _ => none)
    | some (.v (.d (.bl false)), S1) => some (none, S1)
    | _ => none)
  | none => none
theorem comp_rd {ws : List Nat} {t : Tg} {it d e : E} {Q : VK} {H : Hp} (hsl : ∀ i ∈ slots t, i ∈ ws) (q : rdF g L c W (.comp ws t it d e) σ H Q) :
    tLc (rdI g L c W it) (rdG g t) (rdT g L c W0 d) (rdE g L c W0 e) ws σ H Q := by
  obtain ⟨F, ρ, G, fr, S, r, S', Rl, Fo, ev, hx, hq⟩ := q
  have hz := line_eq
  refine stepI (k := fun s S1 => match s with
    | .d x => (match seqD x with
      | some xs => if Nat.ble xs.length 100000 then compL (turnC L c ws t d e fr) xs [] S1 else none
      | none => none)
    | _ => none) Rl Fo ev hx (fun s S1 h1 => ?_) fun x xs S1 F1 H1 J h1 hx1 le R1 ok => ?_
  · try dsimp only at h1
    split at h1
    · rename_i x
      cases q : seqD x with
      | none => rw [q] at h1; cases h1
      | some xs => exact ⟨x, xs, rfl, q⟩
    · cases h1
  · try dsimp only at h1
    rw [hx1] at h1
    dsimp only at h1
    split at h1
    case isFalse => cases h1
    case isTrue hb =>
    have hb := Nat.le_of_ble_eq_true hb
    intro Dn hD
    have gD := (R1.fresh hD).2.1
    refine ⟨fun i m Hc => m = xs.length - i ∧ i ≤ xs.length ∧ ∃ F2 S2 acc av, Le F1 F2 ∧ Rel g F2 ρ (upd G Dn (.lst av)) S2 Hc ∧ Reps g F2 acc av ∧ acc.length ≤ i ∧ compL (turnC L c ws t d e fr) (xs.drop i) acc S2 = some (r, S'),
      ⟨xs.length, by simp, Nat.zero_le _, F1, S1, [], [], Le.refl F1, R1.newG hD, .nil, Nat.zero_le _, h1⟩, ?_⟩
    rintro i m Hc ⟨rfl, hi, F2, S2, acc, av, le2, R2, rs, hl, hc⟩
    have leH : Le F1 Hc := le2.trans R2.sub
    by_cases hlt : i < xs.length
    · right
      have hd : xs[i]? = some xs[i] := List.getElem?_eq_getElem hlt
      obtain ⟨go, yl⟩ := (ok i Hc leH).1 _ hd
      rw [List.drop_eq_getElem_cons hlt] at hc
      refine ⟨go, fun H' => ∃ F2 S2 acc av, Le F1 F2 ∧ Rel g F2 ρ (upd G Dn (.lst av)) S2 H' ∧ Reps g F2 acc av ∧ acc.length ≤ i + 1 ∧ compL (turnC L c ws t d e fr) (xs.drop (i + 1)) acc S2 = some (r, S'),
        fun H' z => ⟨xs.length - (i + 1), by omega, rfl, hlt, z⟩, fun x' H' y => ?_⟩
      obtain ⟨rfl, rp⟩ := yl x' H' y
      generalize xs[i] = dx at hc rp
      replace hc : (match turnC L c ws t d e fr dx S2 with
        | some (some y, S1) => compL (turnC L c ws t d e fr) (xs.drop (i + 1)) (acc ++ [y]) S1
        | some (none, S1) => compL (turnC L c ws t d e fr) (xs.drop (i + 1)) acc S1
        | none => none) = some (r, S') := hc
      cases q0 : bindT t dx (wipeS fr ws) with
      | none => unfold turnC at hc; rw [q0] at hc; cases hc
      | some fr2 =>
        refine ⟨F2, ρ, wipeS fr ws, dx, fr2, R2.sub, ((Fo.mono (le.trans le2))).wipe ws, rp.mono le2, q0, fun σ2 k2 o2 => ⟨wipe_out' hsl o2, ?_⟩⟩
        cases q1 : evE L c d fr2 S2 with
        | none => unfold turnC at hc; rw [q0] at hc; dsimp only at hc; rw [q1] at hc; cases hc
        | some z =>
          obtain ⟨xr, S3⟩ := z
          refine ⟨F2, ρ, _, fr2, S2, xr, S3, R2, k2, q1, ?_, fun s es => ?_⟩
          · cases xr with
            | rz k => unfold turnC at hc; rw [q0] at hc; dsimp only at hc; rw [q1] at hc; cases hc
            | v s => trivial
            | vs l => trivial
          · subst es
            cases s with
            | un => unfold turnC at hc; rw [q0] at hc; dsimp only at hc; rw [q1] at hc; cases hc
            | ref j => unfold turnC at hc; rw [q0] at hc; dsimp only at hc; rw [q1] at hc; cases hc
            | d x =>
              cases x <;> first | (unfold turnC at hc; rw [q0] at hc; dsimp only at hc; rw [q1] at hc; cases hc; done) | skip
              rename_i b
              refine ⟨b, rfl, fun F3 H3 le3 R3 => ?_⟩
              cases b with
              | false =>
                rw [if_neg Bool.false_ne_true]
                have e1 : turnC L c ws t d e fr dx S2 = some (none, S3) := by unfold turnC; rw [q0]; dsimp only; rw [q1]
                rw [e1] at hc
                exact ⟨F3, S3, acc, av, le2.trans le3, R3, rs.mono le3, by omega, hc⟩
              | true =>
                rw [if_pos rfl]
                cases q2 : evE L c e fr2 S3 with
                | none => unfold turnC at hc; rw [q0] at hc; dsimp only at hc; rw [q1] at hc; dsimp only at hc; rw [q2] at hc; cases hc
                | some z =>
                  obtain ⟨xr, S4⟩ := z
                  refine ⟨F3, ρ, _, fr2, S3, xr, S4, R3, k2.mono le3, q2, ?_, fun s es F4 H4 v le4 R4 sv => ?_⟩
                  · cases xr with
                    | rz k => unfold turnC at hc; rw [q0] at hc; dsimp only at hc; rw [q1] at hc; dsimp only at hc; rw [q2] at hc; cases hc
                    | v s => trivial
                    | vs l => trivial
                  · subst es
                    cases s with
                    | un => exact sv.elim
                    | ref j => unfold turnC at hc; rw [q0] at hc; dsimp only at hc; rw [q1] at hc; dsimp only at hc; rw [q2] at hc; cases hc
                    | d y =>
                      have e1 : turnC L c ws t d e fr dx S2 = some (some y, S4) := by unfold turnC; rw [q0]; dsimp only; rw [q1]; dsimp only; rw [q2]
                      rw [e1] at hc
                      have l1 := rs.length
                      refine ⟨av, (R4.oth Dn _ upd_same).1, by omega, F4, S4, acc ++ [y], av ++ [v], (le2.trans le3).trans le4, ?_, (rs.mono (le3.trans le4)).append (.cons sv .nil), by simp; omega, hc⟩
                      have z := R4.setG (p := Dn) (o := .lst (av ++ [v])) upd_same
                      rw [upd_upd] at z
                      exact z
    · left
      have e1 : i = xs.length := by omega
      subst e1
      rw [List.drop_length] at hc
      cases (show some (Xr.v (.d (.lst acc)), S2) = some (r, S') from hc)
      refine ⟨(ok _ Hc leH).2 (Nat.le_refl _), ?_⟩
      obtain ⟨ys, ey, hy⟩ := hq _ rfl
      cases ey
      exact hy F2 Hc Dn av (le.trans le2) gD R2 rs
theorem rf_comp {elt iter : Expr} {ifs : List Expr} {scope : Scope} {own : List (Str × Nat)} {pos : Pos} {t : Tg} {it d e : E} (hc : X.calm = true) (hN : X.N.Nodup) (hi : PI X tg iter (rdI g L c W it)) (ok : BlkOk X.N X.env.scope scope own)
    (hg : ∀ (s : Shared) (H : Hp) (C : Addr) (cl : List (Str × Addr)) (fp : List Addr), PG (X.blk s H scope (compEnvC scope cl C X.env) fp) tg (rdG g t)) (ht : ∀ (s : Shared) (H : Hp) (C : Addr) (cl : List (Str × Addr)) (fp : List Addr), PTs (X.blk s H scope (compEnvC scope cl C X.env) fp) ifs (rdT g L c W0 d))
    (he : ∀ (s : Shared) (H : Hp) (C : Addr) (cl : List (Str × Addr)) (fp : List Addr), PE (X.blk s H scope (compEnvC scope cl C X.env) fp) elt (rdE g L c W0 e)) (hsl : ∀ i ∈ slots t, i ∈ own.map (·.2)) (hs : ∀ x, foldedSetIterable iter X.env x = pure x := by intro _; rfl) :
    PE X (.ListComp elt [⟨tg, iter, ifs, 0⟩] scope pos) (rdF g L c W (.comp (own.map (·.2)) t it d e)) := peImp (pe_lc hc hN hi ok hg ht he hs) fun σ H Q q => comp_rd hsl q
theorem compL_is {f : D → Sto → Option (Option D × Sto)} {s : Sl} : ∀ (xs acc : List D) (S : Sto), compL f xs acc S = some (.v s, S') → ∃ ys, s = .d (.lst ys)
  | [], acc, S, e => by cases e; exact ⟨_, rfl⟩
  | x :: xs, acc, S, e => by
    replace e : (match f x S with
      | some (some y, S1) => compL f xs (acc ++ [y]) S1
      | some (none, S1) => compL f xs acc S1
      | none => none) = some (.v s, S') := e
    split at e
    · exact compL_is xs _ _ e
    · exact compL_is xs _ _ e
    · cases e
theorem comp_is {ws : List Nat} {t : Tg} {it d e : E} {s : Sl} (h : evE L c (.comp ws t it d e) fr S = some (.v s, S')) : ∃ xs, s = .d (.lst xs) := by
  replace h : bnd (evE L c it fr S) (fun s S1 => match s with
    | .d x => (match seqD x with
      | some xs => if Nat.ble xs.length 100000 then compL (turnC L c ws t d e fr) xs [] S1 else none
      | none => none)
    | _ => none) = some (.v s, S') := h
  unfold bnd at h
  split at h
  · dsimp only at h
    split at h
    · split at h
      · split at h
        · exact compL_is _ _ _ h
        · cases h
      · cases h
    · cases h
  · cases h
  · cases h
theorem re_comp {elt iter : Expr} {ifs : List Expr} {scope : Scope} {own : List (Str × Nat)} {pos : Pos} {t : Tg} {it d e : E} (hc : X.calm = true) (hN : X.N.Nodup) (hi : PI X tg iter (rdI g L c W it)) (ok : BlkOk X.N X.env.scope scope own)
    (hg : ∀ (s : Shared) (H : Hp) (C : Addr) (cl : List (Str × Addr)) (fp : List Addr), PG (X.blk s H scope (compEnvC scope cl C X.env) fp) tg (rdG g t)) (ht : ∀ (s : Shared) (H : Hp) (C : Addr) (cl : List (Str × Addr)) (fp : List Addr), PTs (X.blk s H scope (compEnvC scope cl C X.env) fp) ifs (rdT g L c W0 d))
    (he : ∀ (s : Shared) (H : Hp) (C : Addr) (cl : List (Str × Addr)) (fp : List Addr), PE (X.blk s H scope (compEnvC scope cl C X.env) fp) elt (rdE g L c W0 e)) (hsl : ∀ i ∈ slots t, i ∈ own.map (·.2)) (hs : ∀ x, foldedSetIterable iter X.env x = pure x := by intro _; rfl) :
    PE X (.ListComp elt [⟨tg, iter, ifs, 0⟩] scope pos) (rdE g L c W (.comp (own.map (·.2)) t it d e)) := re_of (rf_comp hc hN hi ok hg ht he hsl hs) fun _ _ _ _ h => comp_is h
theorem rts_nil : PTs X [] (rdT g L c W0 (.lit (.bl true))) := ⟨fun pins s σ H Q I q => pts_nil.run pins s σ H Q I (by
  obtain ⟨F, ρ, G, fr, S, r, S', R, Fo, e, hx, hq⟩ := q
  cases (show some (Xr.v (.d (.bl true)), S) = some (r, S') from e)
  obtain ⟨b, eb, hb⟩ := hq _ rfl
  cases eb
  exact hb F H (Le.refl F) R)⟩
theorem rts_one {e : Expr} {d : E} (h : PT X e (rdT g L c W0 d)) : PTs X [e] (rdT g L c W0 d) := pts_one h
end
end Cm

/-! try: .. except X as n: y = n, the error kept -/
namespace Cm
open PySem PySem.Spec PyProof.Rows L2
section
variable {X : Cx} {pins : List (Addr × Obj)} {σ : L2.St} {H : Hp} {s : Shared}
/-- an error that stands in the heap, new since the entry, is tracked from now on -/
theorem track {a : Addr} {oe : Obj} {vs : Array Value} {cls : Value} (I : Inv X pins σ H s) (ha : s.heap.get? a = some oe) (hz : Zc cls none oe) (hd : oe.data = .fields vs) (na : H a = none) (n0 : X.s_0.heap.get? a = none)
    (nL : a ≠ X.env.locals) (np : ∀ p ∈ X.pn ++ pins, p.1 ≠ a) : Inv X pins σ (upd H a (ExK cls a)) s := by
  have ne : ∀ b u, H b = some u → b ≠ a := by
    intro b u e z
    rw [z, na] at e
    cases e
  have kp : ∀ b u, H b = some u → upd H a (ExK cls a) b = some u := fun b u e => by rw [upd_ne (ne b u e)]; exact e
  have fr : ∀ b, b ≠ a → H b = none → upd H a (ExK cls a) b = none := fun b hb e => by rw [upd_ne hb]; exact e
  refine { ok := I.ok, os := I.os, bare := I.bare, base := ⟨I.base.keep, I.base.slot, ?_, I.base.there, ?_, ?_, ?_⟩, loc := I.loc, cell := I.cell, free := fr _ nL.symm I.free, freeC := ?_, pin := ?_, hok := ?_, len := I.len }
  · intro b o e n hx
    refine fr b ?_ (I.base.free b o e n hx)
    rintro rfl
    rw [n0] at e
    cases e
  · intro b xs e
    exact kp b _ (I.base.tups b xs e)
  · intro b o u e
    exact kp b _ (I.base.frzs b o u e)
  · intro b ps e
    obtain ⟨m, z⟩ := I.base.tbls b ps e
    exact ⟨m, kp b _ z⟩
  · intro x c e
    refine fr c ?_ (I.freeC x c e)
    rintro rfl
    obtain ⟨v, o, ho, hdo⟩ := I.cell x c e
    rw [ha] at ho
    cases ho
    rw [hd] at hdo
    cases hdo
  · intro p hp
    obtain ⟨e1, e2, e3⟩ := I.pin p hp
    exact ⟨e1, fr _ (np p hp) e2, e3⟩
  · intro b o e
    by_cases hb : b = a
    · subst hb
      rw [upd_same] at e
      cases e
      exact ⟨⟨oe, vs, ha, hz, hd⟩, ⟨oe, ha⟩, fun h1 h2 ⟨o, v, q, r⟩ k => ⟨o, v, k o q, r⟩⟩
    · rw [upd_ne hb] at e
      exact (I.hok b o e).stay (fun c u _ q => q) (fun c q => kp c _ q) fun c xs q => kp c _ q
end
/-- what is wished of the body's errors: all are the clause's -/
def wKeep (K : PySem.W.Frag) (cv : Value) (i j : Nat) (D : Ends) : WX := fun cls d σ H =>
  PySem.W.exmOne K cls cv = some true ∧ d = none ∧ ∀ a, H a = none → D.nx (((σ.set i (some (.ref a))).set j (some (.ref a))).set i none) (upd H a (ExK cls a))
section
variable {X : Cx} {x n y : Str} {cv : Value} {i j : Nat} {body : List Stmt} {np p1 p2 p3 pos pos' : Pos} {tb : WX → TS}
theorem ps_tryK (hs : X.stack = X.env :: X.outer) (hf : X.env.frame = some X.env.locals) (hex : X.ex = []) (hN : X.N.Nodup) (hi : X.N[i]? = some n) (hj : X.N[j]? = some y) (hln : X.env.scope.names.lookup n = some .local) (hly : X.env.scope.names.lookup y = some .local)
    (hc : Names X x cv) (hdn : (n == ("__debug__" : Str)) = false) (hcn : (n == ("__classdict__" : Str)) = false)
    (hb : ∀ (W : WX) (pn : List (Addr × Obj)) (xe : Value → Shared → Prop), Takes (X.tr pn xe) W → PassesOwn (model X.prog X.w) X.A X.env xe → PSs (X.tr pn xe) body (tb W))
    (hsw : swapsWith (.Name n p2) (some (.Name y p1)) p3.line X.env = pure false := by rfl) :
    PS X (.Try body [.ExceptHandler (some (.Name x np)) (some n) [.Assign [.Name y p1] (.Name n p2) p3] pos'] [] [] pos) (fun D σ H => tb (wKeep X.K cv i j D) D σ H) := by
  constructor
  intro pins s σ H D I h
  have ok := I.ok
  have frm : X.A.frames = some (X.env :: X.outer) := ok.frames.trans (congrArg some hs)
  refine wpAny_Try_except (wpAny_mono ((hb (wKeep X.K cv i j D) (X.pn ++ pins) _ ?_ PassesOwn.looking).run [] s σ H D (I.toTry _) h) ?_ fun _ _ z => z)
  · rintro u s' ⟨a, B, sI, pins', σ', H', cls, d, rfl, J', nb, up, sky, na, os, ag, hyes, rfl, hnx⟩
    have J : Inv X pins σ' H' sI := J'.ofTry ok
    rw [show (X.tr (X.pn ++ pins) _).stack = X.env :: X.outer from hs] at sky
    refine Sky.land Zc.steady frm hf sky fun hA fA uA => ?_
    have JA : Inv X pins σ' H' { s' with heap := hA } := J.landed nb fA.1 (up.trans uA) os ag
    obtain ⟨oA, vA, eA, zA, dA⟩ := fA.there
    -- where the error does not lie
    have off : a ∉ frs (X.env :: X.outer) := by
      intro hm
      obtain ⟨_, o', e', hnf⟩ := fA.2.2.1.mem hm
      rw [eA] at e'
      cases e'
      exact hnf _ dA
    have offS : a ∉ frs X.stack := by rw [hs]; exact off
    have nI : sI.heap.get? a = none := by
      cases q : sI.heap.get? a with
      | none => rfl
      | some o =>
        have z1 := nb a o q offS
        have z2 : B.get? a = none := fA.2.1
        rw [z2] at z1
        cases z1
    have nL : a ≠ X.env.locals := fun z => off (List.mem_filterMap.mpr ⟨X.env, List.mem_cons_self, by rw [hf, z]⟩)
    have nF : a ∉ X.fs := fun hm => by
      obtain ⟨e, he, q⟩ := List.mem_filterMap.mp hm
      exact off (List.mem_filterMap.mpr ⟨e, List.mem_cons_of_mem _ he, q⟩)
    have n0 : X.s_0.heap.get? a = none := by
      cases q : X.s_0.heap.get? a with
      | none => rfl
      | some o =>
        obtain ⟨o', z⟩ := J.base.there a o q (by rw [hex]; exact fun w => nomatch w)
        rw [nI] at z
        cases z
    have npn : ∀ p ∈ X.pn ++ pins, p.1 ≠ a := fun p hp z => by
      have q := (J.pin p hp).1
      rw [z, nI] at q
      cases q
    refine wpAny_handleBy_cons (codeAny_handlers_test ?_) (by intro q; cases q)
    have SA := JA.suite eA dA na nL nF
    have ty : PySem.W.Looks (model X.prog X.w) hA (typeOf (.ref a)) cls := fun A Q E s k q => wpAny_typeOf_ref (k _ _ eA) (by rw [zA.1]; exact q)
    have look := PySem.W.exm_one (M := model X.prog X.w) JA.kIn ty hyes
    have nam : ∀ {Q : Value → Shared → Prop} {E : Value → Shared → Prop}, Q cv { s' with heap := hA } → wpAny (model X.prog X.w) (X.A.mark (some (.ref a))) (eval (.Name x np) X.env) Q E { s' with heap := hA } := by
      intro Q E q
      obtain ⟨hg, hdb, hm | ⟨hm, hv, hnn⟩⟩ := hc
      · exact ld_glob (X := X.suite a ((a, oA) :: (X.pn ++ pins))) SA hg hm q hdb
      · exact ld_blt (X := X.suite a ((a, oA) :: (X.pn ++ pins))) SA hg hm hv q hnn hdb
    refine nam (look.here (codeAny_handlers_suite_as (HandSPX.lands_againZ fA fun hB fB uB => ?_)))
    have JB : Inv X pins σ' H' { s' with heap := hB } := J.landed nb fB.1 ((up.trans uA).trans uB) os ag
    obtain ⟨oB, vB, eB, zB, dB⟩ := fB.there
    refine store_ok (X := X.suite a ((a, oB) :: (X.pn ++ pins))) (v := .ref a) (JB.suite eB dB na nL nF) hN hi (.inl hln) rfl (fun s5 S5 => ?_) (.inr hln)
    have body1 : PSs (X.suite a ((a, oB) :: (X.pn ++ pins))) [.Assign [.Name y p1] (.Name n p2) p3] (tAsg (tVar i) (gName j)) :=
      pss_one (ps_set (i := j) hN hj (.inl hly) (pe_var hi (.inl hln) hdn hcn) hsw (.inr hly))
    have li : i < σ'.length := by rw [J.len]; exact (List.getElem?_eq_some_iff.mp hi).1
    refine wpAny_mono (body1.run [] s5 _ H' { nx := fun σ2 H2 => σ2 = (σ'.set i (some (.ref a))).set j (some (.ref a)) ∧ H2 = H', rt := fun _ _ => False } S5 ⟨.ref a, List.getElem?_set_self li, rfl, rfl⟩) (fun f s6 q => ?_) fun _ _ z => z.elim
    cases f with
    | next =>
      obtain ⟨σ6, H6, S6, rfl, rfl⟩ := q
      have e6 : s6.heap.get? a = some oB := (S6.pin (a, oB) (List.mem_append_left _ List.mem_cons_self)).1
      have J6 := track (S6.unsuite ok) e6 zB dB na n0 nL npn
      exact gone_ok J6 hN hi hln fun s7 J7 => ⟨_, _, J7, hnx a na⟩
    | brk => obtain ⟨_, _, _, z⟩ := q; exact z.elim
    | cont => obtain ⟨_, _, _, z⟩ := q; exact z.elim
    | ret u => obtain ⟨_, _, _, _, _, z⟩ := q; exact z.elim
  · intro f s1 q
    cases f with
    | next => obtain ⟨σ', H', J', q⟩ := q; exact wpAny_execs_nil ⟨σ', H', J'.ofTry ok, q⟩
    | brk => obtain ⟨σ', H', J', q⟩ := q; exact ⟨σ', H', J'.ofTry ok, q⟩
    | cont => obtain ⟨σ', H', J', q⟩ := q; exact ⟨σ', H', J'.ofTry ok, q⟩
    | ret u => obtain ⟨v, σ', H', J', rr, q⟩ := q; exact ⟨v, σ', H', J'.ofTry ok, rr, q⟩
end
/-! ### isinstance of a kept error -/
section
variable {g : Gx} {L : Lw} {c : Ce} {W : WX} {X : Cx}
def rIsi (g : Gx) (L : Lw) (k : Nat) (cv : V) : List V → Hp → VK → Prop := fun vs H Q => ∃ F ρ G S x v b, vs = [v, cv] ∧ Rel g F ρ G S H ∧ Pk g F H x v ∧ bltD L (.isi k) [x] = some b ∧ ∀ F' H' w, Le F F' → Rel g F' ρ G S H' → Rep g F' b w → Q w H'
theorem cb_isi {k : Nat} {cv : V} {cu : Value} (hK : X.K = g.K) (hcv : ∀ u, RelV cv u → u = cu) (hL : ∀ j b, L.sub j k = some b → ExcC g.K (g.C j) ∧ PySem.W.kitOne g.K (.ref (g.C j)) cu = some b) : CallR X (.builtin "isinstance") (rIsi g L k cv) := by
  intro pins s σ H xs us Q I rv h
  obtain ⟨F, ρ, G, S, x, v, b, rfl, R, pk, e, q⟩ := h
  cases x <;> first | cases e | skip
  rename_i j
  replace e : (L.sub j k).map D.bl = some b := e
  cases q1 : L.sub j k with
  | none => rw [q1] at e; cases e
  | some bb =>
    rw [q1] at e
    cases e
    obtain ⟨C, kt⟩ := hL j bb q1
    cases pk with
    | @exc a _ p =>
      obtain ⟨u, w', rfl, r1, r2⟩ := vals2 rv
      cases r1
      obtain rfl := hcv _ r2
      obtain ⟨⟨oe, vs, h1, hz, hd⟩, _⟩ := I.hok a _ (R.sub _ _ p)
      have J : PySem.W.InstAt s.heap a oe (g.C j) none := by
        obtain ⟨oc, od, oda, osl⟩ := oe
        obtain ⟨z1, z2⟩ := hz
        dsimp only at z1 z2 hd
        subst z1 z2 hd
        exact ⟨h1, rfl, rfl, trivial⟩
      have kin : g.K.In s.heap := by rw [← hK]; exact I.kIn
      exact PySem.W.kia_one (PySem.W.handS_kitx_exc C.hg C.hk C.hs C.hd C.ha C.hn C.ht C.hm) kin J kt (fun z => nomatch z) fun tk => ⟨.bl bb, H, I.kept (t' := tk) fun _ _ z => z, rfl, q F H _ (Le.refl F) R (.bl bb)⟩
theorem re_isi {k : Nat} {cv : V} {cu : Value} {a b : Expr} {ia : E} {p pos : Pos} (hK : X.K = g.K) (hcv : ∀ u, RelV cv u → u = cu) (hL : ∀ j b, L.sub j k = some b → ExcC g.K (g.C j) ∧ PySem.W.kitOne g.K (.ref (g.C j)) cu = some b) (hg : Gl X "isinstance") (hm : X.mg "isinstance" = none)
    (ha : PE X a (rdE g L c W ia)) (hb : PE X b (tC cv)) (h1 : starEach [a, b] X.env = (false, eval a X.env) :: starEach [b] X.env := by rfl) (h2 : starEach [b] X.env = (false, eval b X.env) :: starEach [] X.env := by rfl) (hpl : (backTo pos (starEach [b] X.env)).any (·.1) = false := by rfl) :
    PE X (.Call (.Name "isinstance" p) [a, b] [] pos) (rdE g L c W (.blt (.isi k) (.cons ia .nil))) :=
  peImp (pe_callB (cb_isi (g := g) (L := L) (k := k) hK hcv hL) hg hm (by decide +kernel) (pa_cons ha (pa_cons hb pa_nil h2) h1) (by decide) (by decide) h1 hpl) fun σ H Q q => by
    obtain ⟨F, ρ, G, fr, S, r, S', R, Fo, e, hx, hq⟩ := q
    replace e : bndL (bnd (evE L c ia fr S) fun s S1 => bndL (some (.vs [], S1)) fun l S2 => some (.vs (s :: l), S2)) (fun l S1 => match peekL S1 l with
      | some xs => outD S1 (bltD L (.isi k) xs)
      | none => none) = some (r, S') := e
    have e2 : bnd (evE L c ia fr S) (fun s S1 => pk1 S1 s fun x => outD S1 (bltD L (.isi k) [x])) = some (r, S') := by
      revert e
      cases evE L c ia fr S with
      | none => intro z; cases z
      | some z =>
        obtain ⟨xr, S1⟩ := z
        cases xr with
        | vs l => intro z; cases z
        | rz n => intro z; exact z
        | v s =>
          intro z
          replace z : (match peekL S1 [s] with
            | some xs => outD S1 (bltD L (.isi k) xs)
            | none => none) = some (r, S') := z
          show pk1 S1 s (fun x => outD S1 (bltD L (.isi k) [x])) = some (r, S')
          unfold peekL peekL at z
          unfold pk1
          cases q : peek S1 s with
          | none => rw [q] at z; cases z
          | some x => rw [q] at z; exact z
    refine stepE (k := fun s S1 => pk1 S1 s fun x => outD S1 (bltD L (.isi k) [x])) R Fo e2 hx fun s S1 F1 H1 v h1 le R1 sv => ?_
    obtain ⟨dx, px, h3⟩ := pk1_some h1
    obtain ⟨d, h5, rfl, rfl⟩ := outD_some h3
    exact ⟨F1, ρ, G, _, dx, v, d, rfl, R1, peek_ok R1 sv px, h5, fun F' H' w le' R' rp => hq _ rfl F' H' w (le.trans le') R' rp⟩
end
end Cm

/-! statements -/
namespace Cm
open PySem PySem.Spec PyProof.Rows L2
/-- the cells below b stand where they stood -/
def Ag (b : Nat) (ρ ρ' : List Addr) : Prop := ρ'.take b = ρ.take b
theorem Ag.refl (b : Nat) (ρ : List Addr) : Ag b ρ ρ := rfl
theorem Ag.trans {b : Nat} {ρ ρ1 ρ2 : List Addr} (h : Ag b ρ ρ1) (h' : Ag b ρ1 ρ2) : Ag b ρ ρ2 := Eq.trans h' h
theorem Ag.set (b k : Nat) (ρ : List Addr) (p : Addr) : Ag b ρ (ρ.set (b + k) p) := by
  unfold Ag
  rw [List.take_set_of_le (by omega)]
section
variable (g : Gx) (L : Lw) (c : Ce) (W : WX) (b : Nat)
def PoS (Dn : Ends) (F : Hp) (ρ : List Addr) (G : Hp) (fr' : Fr) (S' : Sto) : Rr → Prop
  | .nx => ∀ F' ρ' σ' H', Le F F' → Ag b ρ ρ' → Rel g F' ρ' G S' H' → Fok g F' ρ' fr' σ' → Dn.nx σ' H'
  | .ret x => ∀ F' ρ' H' v, Le F F' → Ag b ρ ρ' → Rel g F' ρ' G S' H' → Rep g F' x v → Dn.rt v H'
  | .bk => ∀ F' ρ' σ' H', Le F F' → Ag b ρ ρ' → Rel g F' ρ' G S' H' → Fok g F' ρ' fr' σ' → Dn.bk σ' H'
  | .rz k => ∀ F' ρ' σ' H', Le F F' → Ag b ρ ρ' → Rel g F' ρ' G S' H' → Fok g F' ρ' fr' σ' → W (.ref (g.C k)) none σ' H'
def rdS (t : T) : TS := fun Dn σ H => ∃ F ρ G fr S r fr' S', Rel g F ρ G S H ∧ Fok g F ρ fr σ ∧ evT L c b t fr S = some (r, fr', S') ∧ PoS g W b Dn F ρ G fr' S' r
end
section
variable {g : Gx} {L : Lw} {c : Ce} {W : WX} {b : Nat} {F G H : Hp} {ρ : List Addr} {S S' : Sto} {fr fr' : Fr} {σ : L2.St} {r : Rr} {Dn : Ends} {X : Cx}
theorem PoS.mono {F1 : Hp} {ρ1 : List Addr} (h : PoS g W b Dn F ρ G fr' S' r) (le : Le F F1) (ag : Ag b ρ ρ1) : PoS g W b Dn F1 ρ1 G fr' S' r := by
  cases r with
  | nx => exact fun F' ρ' σ' H' l a R k => h F' ρ' σ' H' (le.trans l) (ag.trans a) R k
  | ret x => exact fun F' ρ' H' v l a R k => h F' ρ' H' v (le.trans l) (ag.trans a) R k
  | bk => exact fun F' ρ' σ' H' l a R k => h F' ρ' σ' H' (le.trans l) (ag.trans a) R k
  | rz k => exact fun F' ρ' σ' H' l a R k => h F' ρ' σ' H' (le.trans l) (ag.trans a) R k
theorem psImp {s : Stmt} {t t' : TS} (h : PS X s t) (hi : ∀ D σ H, t' D σ H → t D σ H) : PS X s t' := ⟨fun pins s σ H D I q => h.run pins s σ H D I (hi D σ H q)⟩
theorem pssImp {s : List Stmt} {t t' : TS} (h : PSs X s t) (hi : ∀ D σ H, t' D σ H → t D σ H) : PSs X s t' := ⟨fun pins s σ H D I q => h.run pins s σ H D I (hi D σ H q)⟩
/-- an expression in a statement -/
theorem stepSE {a : E} {k : Sl → Sto → Option (Rr × Fr × Sto)} {Q : VK} (R : Rel g F ρ G S H) (Fo : Fok g F ρ fr σ) (h : bndE fr (evE L c a fr S) k = some (r, fr', S')) (hx : PoS g W b Dn F ρ G fr' S' r)
    (hk : ∀ s S1 F1 H1 v, k s S1 = some (r, fr', S') → Le F F1 → Rel g F1 ρ G S1 H1 → SlV g F1 ρ s v → Q v H1) : rdE g L c W a σ H Q := by
  unfold bndE at h
  split at h
  · rename_i s S1 e
    exact ⟨F, ρ, G, fr, S, .v s, S1, R, Fo, e, trivial, fun s' es F1 H1 v le R1 sv => by cases es; exact hk s S1 F1 H1 v h le R1 sv⟩
  · rename_i n S1 e
    cases h
    exact ⟨F, ρ, G, fr, S, .rz n, _, R, Fo, e, fun F' H' le R' => hx F' ρ σ H' le (Ag.refl b ρ) R' (Fo.mono le), fun s' es => by cases es⟩
  · cases h
theorem rs_nil : PSs X [] (rdS g L c W b .nop) := pssImp pss_nil fun D σ H q => by
  obtain ⟨F, ρ, G, fr, S, r, fr', S', R, Fo, e, hq⟩ := q
  cases (show some (Rr.nx, fr, S) = some (r, fr', S') from e)
  exact hq F ρ σ H (Le.refl F) (Ag.refl b ρ) R Fo
theorem seq_rd {s t : T} (q : rdS g L c W b (.seq s t) Dn σ H) : rdS g L c W b s { Dn with nx := rdS g L c W b t Dn } σ H := by
  obtain ⟨F, ρ, G, fr, S, r, fr', S', R, Fo, e, hq⟩ := q
  replace e : bndS (evT L c b s fr S) (fun fr1 S1 => evT L c b t fr1 S1) = some (r, fr', S') := e
  unfold bndS at e
  split at e
  · rename_i fr1 S1 e1
    exact ⟨F, ρ, G, fr, S, .nx, fr1, S1, R, Fo, e1, fun F' ρ' σ' H' le ag R' k' => ⟨F', ρ', G, fr1, S1, r, fr', S', R', k', e, hq.mono le ag⟩⟩
  · rename_i e1
    refine ⟨F, ρ, G, fr, S, r, fr', S', R, Fo, e, ?_⟩
    cases r with
    | nx => exact absurd e (fun z => e1 _ _ z)
    | ret x => exact hq
    | bk => exact hq
    | rz k => exact hq
theorem rs_cons {s : Stmt} {l : List Stmt} {t u : T} (h1 : PS X s (rdS g L c W b t)) (h2 : PSs X l (rdS g L c W b u)) : PSs X (s :: l) (rdS g L c W b (.seq t u)) := pssImp (pss_cons h1 h2) fun D σ H q => seq_rd q
theorem rs_one {s : Stmt} {t : T} (h1 : PS X s (rdS g L c W b t)) : PSs X [s] (rdS g L c W b t) := pss_one h1
theorem rs_never {s : Stmt} : PS X s (rdS g L c W b .never) := psImp ps_never fun D σ H q => by
  obtain ⟨F, ρ, G, fr, S, r, fr', S', R, Fo, e, hq⟩ := q
  cases e
theorem rss_never {s : List Stmt} : PSs X s (rdS g L c W b .never) := pssImp pss_never fun D σ H q => by
  obtain ⟨F, ρ, G, fr, S, r, fr', S', R, Fo, e, hq⟩ := q
  cases e
/-! ### assignments -/
theorem asg_rd {t : Tg} {e : E} (q : rdS g L c W b (.asg t e) Dn σ H) : tAsg (rdE g L c W e) (rdG g t) Dn σ H := by
  obtain ⟨F, ρ, G, fr, S, r, fr', S', R, Fo, e, hq⟩ := q
  refine stepSE (k := fun s S1 => match s with
    | .d x => (match bindT t x fr with
      | some fr1 => some (.nx, fr1, S1)
      | none => none)
    | _ => none) R Fo e hq fun s S1 F1 H1 v h1 le R1 sv => ?_
  try dsimp only at h1
  split at h1
  · rename_i x
    cases q1 : bindT t x fr with
    | none => rw [q1] at h1; cases h1
    | some fr1 =>
      rw [q1] at h1
      cases h1
      exact ⟨F1, ρ, fr, x, _, R1.sub, Fo.mono le, sv, q1, fun σ' k' _ => hq F1 ρ σ' H1 le (Ag.refl b ρ) R1 k'⟩
  · cases h1
theorem rs_asg {tg e : Expr} {t : Tg} {i : E} {pos : Pos} (he : PE X e (rdE g L c W i)) (hg : PG X tg (rdG g t)) (hs : swapsWithSole [tg] e pos.line X.env = pure false := by rfl) (hw : swappedStores [tg] e X.env = pure none := by rfl)
    (h1 : (assignEach [tg] X.env).map (·.2) = [assign tg X.env] := by rfl) : PS X (.Assign [tg] e pos) (rdS g L c W b (.asg t i)) := psImp (ps_asg he hg hs hw h1) fun D σ H q => asg_rd q
/-- a name's -/
theorem set_rd {i : Nat} {e : E} (q : rdS g L c W b (.asg (.nm i) e) Dn σ H) : tAsg (rdE g L c W e) (gName i) Dn σ H := by
  obtain ⟨F, ρ, G, fr, S, r, fr', S', R, Fo, e, hq⟩ := q
  refine stepSE (k := fun s S1 => match s with
    | .d x => (match bindT (.nm i) x fr with
      | some fr1 => some (.nx, fr1, S1)
      | none => none)
    | _ => none) R Fo e hq fun s S1 F1 H1 v h1 le R1 sv => ?_
  try dsimp only at h1
  split at h1
  · rename_i x
    cases (show some (Rr.nx, fr.set i (.d x), S1) = some (r, fr', S') from h1)
    exact hq F1 ρ _ H1 le (Ag.refl b ρ) R1 ((Fo.mono le).set i sv)
  · cases h1
theorem rs_set {i : Nat} {x : Str} {e : Expr} {ie : E} {pos pos' : Pos} (hN : X.N.Nodup) (hi : X.N[i]? = some x) (hx : Loc X.env.scope x) (he : PE X e (rdE g L c W ie)) (hs : swapsWith e (some (.Name x pos')) pos.line X.env = pure false := by rfl) (hf : X.fn x = true ∨ X.env.scope.names.lookup x = some .local := by first | exact .inl rfl | exact .inr rfl | assumption) :
    PS X (.Assign [.Name x pos'] e pos) (rdS g L c W b (.asg (.nm i) ie)) := psImp (ps_set hN hi hx he hs hf) fun D σ H q => set_rd q
/-- a comprehension given to a name -/
theorem rdE_F {i : E} {Q : VK} (hi : ∀ fr S s S', evE L c i fr S = some (.v s, S') → ∃ xs, s = .d (.lst xs)) (q : rdE g L c W i σ H Q) : rdF g L c W i σ H Q := by
  obtain ⟨F, ρ, G, fr, S, r, S', R, Fo, e, hx, hq⟩ := q
  refine ⟨F, ρ, G, fr, S, r, S', R, Fo, e, hx, fun s es => ?_⟩
  subst es
  obtain ⟨xs, rfl⟩ := hi _ _ _ _ e
  refine ⟨xs, rfl, fun F' H' p vs le hp R' rs => ?_⟩
  have le2 : Le F' (upd F' p (.lst vs)) := Le.new (R'.oth p _ upd_same).2.1
  refine hq _ rfl (upd F' p (.lst vs)) H' _ (le.trans le2) (R'.frzG upd_same fun a u ea => ?_) (.lst upd_same (rs.mono le2))
  have ne : a ≠ p := fun z => by rw [z, hp] at ea; cases ea
  exact ⟨ne, by rw [upd_ne ne]; exact ea⟩
theorem rs_setC {tg : Expr} {i : Nat} {y : Str} {py : Pos} {elt iter : Expr} {ifs : List Expr} {scope : Scope} {own : List (Str × Nat)} {pos spos : Pos} {t : Tg} {it d e : E} (hc : X.calm = true) (hN : X.N.Nodup) (hy : X.N[i]? = some y) (hyl : X.env.scope.names.lookup y = some .local)
    (hsw : swapsWith (.ListComp elt [⟨tg, iter, ifs, 0⟩] scope pos) (some (.Name y py)) spos.line X.env = pure true) (hi : PI X tg iter (rdI g L c W it)) (ok : BlkOk X.N X.env.scope scope own)
    (hg : ∀ (s : Shared) (H : Hp) (C : Addr) (cl : List (Str × Addr)) (fp : List Addr), PG (X.blk s H scope (compEnvC scope cl C X.env) fp) tg (rdG g t)) (ht : ∀ (s : Shared) (H : Hp) (C : Addr) (cl : List (Str × Addr)) (fp : List Addr), PTs (X.blk s H scope (compEnvC scope cl C X.env) fp) ifs (rdT g L c W0 d))
    (he : ∀ (s : Shared) (H : Hp) (C : Addr) (cl : List (Str × Addr)) (fp : List Addr), PE (X.blk s H scope (compEnvC scope cl C X.env) fp) elt (rdE g L c W0 e)) (hsl : ∀ i ∈ slots t, i ∈ own.map (·.2)) (hs : ∀ x, foldedSetIterable iter X.env x = pure x := by intro _; rfl) :
    PS X (.Assign [.Name y py] (.ListComp elt [⟨tg, iter, ifs, 0⟩] scope pos) spos) (rdS g L c W b (.asg (.nm i) (.comp (own.map (·.2)) t it d e))) :=
  psImp (ps_setLc hc hN hy hyl hsw hi ok hg ht he hs) fun D σ H q => comp_rd hsl (rdE_F (fun _ _ _ _ h => comp_is h) (set_rd q))
/-- a new list given to a name that will change it -/
theorem noref_at {m : Nat} : ∀ {fr : List Sl} {j : Nat} {k : Nat}, noref m fr = true → fr[j]? = some (.ref k) → k ≠ m
  | [], _, _, _, e => by simp at e
  | s :: r, 0, k, h, e => by
    simp at e
    subst e
    have h : ((!Nat.beq k m) && noref m r) = true := h
    obtain ⟨h1, _⟩ := Bool.and_eq_true_iff.mp h
    intro z
    rw [z] at h1
    simp at h1
  | s :: r, j + 1, k, h, e => by
    have h2 : noref m r = true := by
      cases s with
      | un => exact h
      | d x => exact h
      | ref i => exact (Bool.and_eq_true_iff.mp (show ((!Nat.beq i m) && noref m r) = true from h)).2
    exact noref_at (j := j) h2 (by simpa using e)
theorem setM_rd {i k : Nat} {e : E} (q : rdS g L c W b (.asgM i k e) Dn σ H) : tAsg (rdF g L c W e) (gName i) Dn σ H := by
  obtain ⟨F, ρ, G, fr, S, r, fr', S', R, Fo, e, hq⟩ := q
  replace e : bndE fr (evE L c _ fr S) (fun s S1 => match s with
    | .d (.lst xs) => if Nat.blt (b + k) S1.length && noref (b + k) (fr.set i .un) then some (.nx, fr.set i (.ref (b + k)), S1.set (b + k) (.live (.lst xs))) else none
    | _ => none) = some (r, fr', S') := e
  unfold bndE at e
  split at e
  · rename_i s S1 e1
    dsimp only at e
    split at e
    · rename_i xs
      split at e
      · rename_i hb
        cases e
        obtain ⟨hb, hn⟩ := Bool.and_eq_true_iff.mp hb
        have hb : b + k < S1.length := Nat.le_of_ble_eq_true hb
        refine ⟨F, ρ, G, fr, S, _, S1, R, Fo, e1, trivial, fun s es => ?_⟩
        cases es
        refine ⟨xs, rfl, fun F' H' p vs le hp R' rs => ?_⟩
        have R2 := R'.bind hp hb (x := .lst xs) (show ObR g F' (.lst xs) (.lst vs) from rs)
        refine hq F' (ρ.set (b + k) p) _ H' le (Ag.set b k ρ p) R2 ?_
        have hl : b + k < ρ.length := by rw [R'.len]; exact hb
        have Fo2 : Fok g F' (ρ.set (b + k) p) (fr.set i .un) (σ.set i none) := by
          refine ⟨by simpa using Fo.len, fun j t ej => ?_⟩
          rcases ((Fo.mono le).setUn i none).at_ j t ej with z | ⟨v, z1, z2⟩
          · exact .inl z
          · cases t with
            | un => exact .inl rfl
            | d x => exact .inr ⟨v, z1, z2⟩
            | ref m =>
              obtain ⟨a, za, zb⟩ := z2
              have nm := noref_at hn ej
              exact .inr ⟨v, z1, a, by rw [List.getElem?_set_ne (fun z => nm z.symm)]; exact za, zb⟩
        have Fo3 := Fo2.set (s := .ref (b + k)) (v := .ref p) i ⟨p, List.getElem?_set_self hl, rfl⟩
        rw [List.set_set, List.set_set] at Fo3
        exact Fo3
      · cases e
    · cases e
  · rename_i n S1 e1
    cases e
    exact ⟨F, ρ, G, fr, S, .rz n, _, R, Fo, e1, fun F' H' le R' => hq F' ρ σ H' le (Ag.refl b ρ) R' (Fo.mono le), fun s' es => by cases es⟩
  · cases e
theorem rs_setM {i k : Nat} {x : Str} {e : Expr} {ie : E} {pos pos' : Pos} (hN : X.N.Nodup) (hi : X.N[i]? = some x) (hx : Loc X.env.scope x) (he : PE X e (rdF g L c W ie)) (hs : swapsWith e (some (.Name x pos')) pos.line X.env = pure false := by rfl) (hf : X.fn x = true ∨ X.env.scope.names.lookup x = some .local := by first | exact .inl rfl | exact .inr rfl | assumption) :
    PS X (.Assign [.Name x pos'] e pos) (rdS g L c W b (.asgM i k ie)) := psImp (ps_set hN hi hx he hs hf) fun D σ H q => setM_rd q
theorem rs_setMC {tg : Expr} {i k : Nat} {y : Str} {py : Pos} {elt iter : Expr} {ifs : List Expr} {scope : Scope} {own : List (Str × Nat)} {pos spos : Pos} {t : Tg} {it d e : E} (hc : X.calm = true) (hN : X.N.Nodup) (hy : X.N[i]? = some y) (hyl : X.env.scope.names.lookup y = some .local)
    (hsw : swapsWith (.ListComp elt [⟨tg, iter, ifs, 0⟩] scope pos) (some (.Name y py)) spos.line X.env = pure true) (hi : PI X tg iter (rdI g L c W it)) (ok : BlkOk X.N X.env.scope scope own)
    (hg : ∀ (s : Shared) (H : Hp) (C : Addr) (cl : List (Str × Addr)) (fp : List Addr), PG (X.blk s H scope (compEnvC scope cl C X.env) fp) tg (rdG g t)) (ht : ∀ (s : Shared) (H : Hp) (C : Addr) (cl : List (Str × Addr)) (fp : List Addr), PTs (X.blk s H scope (compEnvC scope cl C X.env) fp) ifs (rdT g L c W0 d))
    (he : ∀ (s : Shared) (H : Hp) (C : Addr) (cl : List (Str × Addr)) (fp : List Addr), PE (X.blk s H scope (compEnvC scope cl C X.env) fp) elt (rdE g L c W0 e)) (hsl : ∀ i ∈ slots t, i ∈ own.map (·.2)) (hs : ∀ x, foldedSetIterable iter X.env x = pure x := by intro _; rfl) :
    PS X (.Assign [.Name y py] (.ListComp elt [⟨tg, iter, ifs, 0⟩] scope pos) spos) (rdS g L c W b (.asgM i k (.comp (own.map (·.2)) t it d e))) :=
  psImp (ps_setLc hc hN hy hyl hsw hi ok hg ht he hs) fun D σ H q => comp_rd hsl (setM_rd q)
/-- x, y = e, f -/
theorem rs_par {i j : Nat} {x y : Str} {a d : Expr} {ia id : E} {px py pt pt2 pos : Pos} {kt k2 : Nat} (hc : X.calm = true) (hN : X.N.Nodup) (hi : X.N[i]? = some x) (hj : X.N[j]? = some y) (hij : i ≠ j) (hx : X.env.scope.names.lookup x = some .local) (hy : X.env.scope.names.lookup y = some .local)
    (ha : PE X a (rdE g L c W ia)) (hd : PE X d (rdE g L c W id)) (hw : swappedStores [.Tuple [.Name x px, .Name y py] kt pt] (.Tuple [a, d] k2 pt2) X.env = pure (some [x, y])) (hs : swapsWithSole [.Tuple [.Name x px, .Name y py] kt pt] (.Tuple [a, d] k2 pt2) pos.line X.env = pure false := by rfl)
    (h1 : starEach [a, d] X.env = (false, eval a X.env) :: starEach [d] X.env := by rfl) (h2 : starEach [d] X.env = (false, eval d X.env) :: starEach [] X.env := by rfl) :
    PS X (.Assign [.Tuple [.Name x px, .Name y py] kt pt] (.Tuple [a, d] k2 pt2) pos) (rdS g L c W b (.par i j ia id)) :=
  psImp (ps_par hc hN hi hj hij hx hy (pa_cons ha (pa_cons hd pa_nil h2) h1) hw hs) fun D σ H q => by
    obtain ⟨F, ρ, G, fr, S, r, fr', S', R, Fo, e, hq⟩ := q
    refine stepSE (k := fun s S1 => bndE fr (evE L c id fr S1) fun t S2 => parK fr i j s t S2) R Fo e hq fun s S1 F1 H1 v h1 le R1 sv => ?_
    refine stepSE (k := fun t S2 => parK fr i j s t S2) R1 (Fo.mono le) h1 (hq.mono le (Ag.refl b ρ)) fun t S2 F2 H2 w h2 le2 R2 sw => ?_
    unfold parK at h2
    cases s with
    | un => cases h2
    | ref _ => cases h2
    | d x =>
      cases t with
      | un => cases h2
      | ref _ => cases h2
      | d y =>
        cases h2
        exact ⟨v, w, rfl, hq F2 ρ _ H2 (le.trans le2) (Ag.refl b ρ) R2 ((((Fo.mono le).mono le2).set i (sv.mono le2)).set j sw)⟩
/-! ### small statements -/
theorem rs_exp {e : Expr} {i : E} {pos : Pos} (he : PE X e (rdE g L c W i)) (hs : swapsWith e none pos.line X.env = pure false := by rfl) : PS X (.Expr e pos) (rdS g L c W b (.exp i)) := psImp (ps_expr he hs) fun D σ H q => by
  obtain ⟨F, ρ, G, fr, S, r, fr', S', R, Fo, e, hq⟩ := q
  refine stepSE (k := fun _ S1 => some (.nx, fr, S1)) R Fo e hq fun s S1 F1 H1 v h1 le R1 sv => ?_
  cases h1
  exact hq F1 ρ σ H1 le (Ag.refl b ρ) R1 (Fo.mono le)
theorem rs_ret {e : Expr} {i : E} {pos : Pos} (he : PE X e (rdE g L c W i)) : PS X (.Return (some e) pos) (rdS g L c W b (.ret i)) := psImp (ps_ret he) fun D σ H q => by
  obtain ⟨F, ρ, G, fr, S, r, fr', S', R, Fo, e, hq⟩ := q
  refine stepSE (k := fun s S1 => match s with
    | .d x => some (.ret x, fr, S1)
    | _ => none) R Fo e hq fun s S1 F1 H1 v h1 le R1 sv => ?_
  try dsimp only at h1
  split at h1
  · cases h1
    exact hq F1 ρ H1 v le (Ag.refl b ρ) R1 sv
  · cases h1
theorem rs_brk {pos : Pos} : PS X (.Break pos) (rdS g L c W b .brk) := psImp ps_break fun D σ H q => by
  obtain ⟨F, ρ, G, fr, S, r, fr', S', R, Fo, e, hq⟩ := q
  cases (show some (Rr.bk, fr, S) = some (r, fr', S') from e)
  exact hq F ρ σ H (Le.refl F) (Ag.refl b ρ) R Fo
theorem rs_pass {pos : Pos} : PS X (.Pass pos) (rdS g L c W b .nop) := psImp ps_pass fun D σ H q => by
  obtain ⟨F, ρ, G, fr, S, r, fr', S', R, Fo, e, hq⟩ := q
  cases (show some (Rr.nx, fr, S) = some (r, fr', S') from e)
  exact hq F ρ σ H (Le.refl F) (Ag.refl b ρ) R Fo
/-- a test in a statement -/
theorem stepST {a : E} {Q : Bool → Hp → Prop} (R : Rel g F ρ G S H) (Fo : Fok g F ρ fr σ) {x y : Sto → Option (Rr × Fr × Sto)} (h : (match evE L c a fr S with
    | some (.v (.d (.bl true)), S1) => x S1
    | some (.v (.d (.bl false)), S1) => y S1
    | some (.rz k, S1) => some (.rz k, fr, S1)
    | _ => none) = some (r, fr', S')) (hx : PoS g W b Dn F ρ G fr' S' r)
    (h1 : ∀ S1 F1 H1, x S1 = some (r, fr', S') → Le F F1 → Rel g F1 ρ G S1 H1 → Q true H1) (h2 : ∀ S1 F1 H1, y S1 = some (r, fr', S') → Le F F1 → Rel g F1 ρ G S1 H1 → Q false H1) : rdT g L c W a σ H Q := by
  split at h
  · rename_i S1 e
    exact ⟨F, ρ, G, fr, S, _, S1, R, Fo, e, trivial, fun s es => by cases es; exact ⟨true, rfl, fun F1 H1 le R1 => h1 S1 F1 H1 h le R1⟩⟩
  · rename_i S1 e
    exact ⟨F, ρ, G, fr, S, _, S1, R, Fo, e, trivial, fun s es => by cases es; exact ⟨false, rfl, fun F1 H1 le R1 => h2 S1 F1 H1 h le R1⟩⟩
  · rename_i n S1 e
    cases h
    exact ⟨F, ρ, G, fr, S, .rz n, _, R, Fo, e, fun F' H' le R' => hx F' ρ σ H' le (Ag.refl b ρ) R' (Fo.mono le), fun s' es => by cases es⟩
  · cases h
theorem rs_if {t : Expr} {l m : List Stmt} {it : E} {x y : T} {pos : Pos} (ht : PT X t (rdT g L c W it)) (hl : PSs X l (rdS g L c W b x)) (hm : PSs X m (rdS g L c W b y)) : PS X (.If t l m pos) (rdS g L c W b (.ite it x y)) := psImp (ps_if ht hl hm) fun D σ H q => by
  obtain ⟨F, ρ, G, fr, S, r, fr', S', R, Fo, e, hq⟩ := q
  refine stepST (x := fun S1 => evT L c b x fr S1) (y := fun S1 => evT L c b y fr S1) R Fo e hq (fun S1 F1 H1 h1 le R1 => ?_) fun S1 F1 H1 h1 le R1 => ?_
  · rw [if_pos rfl]
    exact ⟨F1, ρ, G, fr, S1, r, fr', S', R1, Fo.mono le, h1, hq.mono le (Ag.refl b ρ)⟩
  · rw [if_neg Bool.false_ne_true]
    exact ⟨F1, ρ, G, fr, S1, r, fr', S', R1, Fo.mono le, h1, hq.mono le (Ag.refl b ρ)⟩
theorem rs_while {t : Expr} {l : List Stmt} {it : E} {x : T} {pos : Pos} (hp : PassesOwn (model X.prog X.w) X.A X.env X.xe) (ht : PT X t (rdT g L c W it)) (hl : PSs X l (rdS g L c W b x)) : PS X (.While t l [] pos) (rdS g L c W b (.whl it x)) := psImp (ps_while hp ht hl) fun D σ H q => by
  obtain ⟨F, ρ, G, fr, S, r, fr', S', R, Fo, e, hq⟩ := q
  replace e : whlL (evE L c it) (evT L c b x) LF fr S = some (r, fr', S') := e
  refine ⟨fun m σ1 H1 => ∃ F1 ρ1 fr1 S1, Le F F1 ∧ Ag b ρ ρ1 ∧ Rel g F1 ρ1 G S1 H1 ∧ Fok g F1 ρ1 fr1 σ1 ∧ whlL (evE L c it) (evT L c b x) m fr1 S1 = some (r, fr', S'), ⟨LF, F, ρ, fr, S, Le.refl F, Ag.refl b ρ, R, Fo, e⟩, ?_⟩
  rintro m σ1 H1 ⟨F1, ρ1, fr1, S1, le1, ag1, R1, Fo1, e1⟩
  have hq1 := hq.mono le1 ag1
  cases m with
  | zero => cases e1
  | succ m =>
    refine stepST (Dn := D) (x := fun S2 => (match evT L c b x fr1 S2 with
      | some (.nx, fr2, S3) => whlL (evE L c it) (evT L c b x) m fr2 S3
      | some (.bk, fr2, S3) => some (.nx, fr2, S3)
      | r => r)) (y := fun S2 => some (.nx, fr1, S2)) R1 Fo1 e1 hq1 (fun S2 F2 H2 h2 le2 R2 => ?_) fun S2 F2 H2 h2 le2 R2 => ?_
    · rw [if_pos rfl]
      refine ⟨fun σ3 H3 => ∃ F3 ρ3 fr3 S3, Le F F3 ∧ Ag b ρ ρ3 ∧ Rel g F3 ρ3 G S3 H3 ∧ Fok g F3 ρ3 fr3 σ3 ∧ whlL (evE L c it) (evT L c b x) m fr3 S3 = some (r, fr', S'), fun σ3 H3 z => ⟨m, Nat.lt_succ_self m, z⟩, ?_⟩
      cases q2 : evT L c b x fr1 S2 with
      | none => rw [q2] at h2; cases h2
      | some z =>
        obtain ⟨r3, fr3, S3⟩ := z
        rw [q2] at h2
        refine ⟨F2, ρ1, G, fr1, S2, r3, fr3, S3, R2, Fo1.mono le2, q2, ?_⟩
        have hq2 := hq1.mono le2 (Ag.refl b ρ1)
        cases r3 with
        | nx => exact fun F' ρ' σ' H' le ag R' k' => ⟨F', ρ', fr3, S3, (le1.trans le2).trans le, ag1.trans ag, R', k', h2⟩
        | bk =>
          cases (show some (Rr.nx, fr3, S3) = some (r, fr', S') from h2)
          exact fun F' ρ' σ' H' le ag R' k' => hq2 F' ρ' σ' H' le ag R' k'
        | ret y =>
          cases (show some (Rr.ret y, fr3, S3) = some (r, fr', S') from h2)
          exact hq2
        | rz k =>
          cases (show some (Rr.rz k, fr3, S3) = some (r, fr', S') from h2)
          exact hq2
    · rw [if_neg Bool.false_ne_true]
      cases (show some (Rr.nx, fr1, S2) = some (r, fr', S') from h2)
      exact hq1 F2 ρ1 σ1 H2 le2 (Ag.refl b ρ1) R2 (Fo1.mono le2)
/-- the walked thing of a for -/
theorem stepSI {a : E} {k : Sl → Sto → Option (Rr × Fr × Sto)} {Q : It → Hp → Prop} (R : Rel g F ρ G S H) (Fo : Fok g F ρ fr σ) (h : bndE fr (evE L c a fr S) k = some (r, fr', S')) (hx : PoS g W b Dn F ρ G fr' S' r) (hs : ∀ s S1, k s S1 = some (r, fr', S') → ∃ x xs, s = .d x ∧ seqD x = some xs)
    (hk : ∀ x xs S1 F1 H1 J, k (.d x) S1 = some (r, fr', S') → seqD x = some xs → Le F F1 → Rel g F1 ρ G S1 H1 → ItOk g F1 xs J → Q J H1) : rdI g L c W a σ H Q := by
  unfold bndE at h
  split at h
  · rename_i s S1 e
    refine ⟨F, ρ, G, fr, S, .v s, S1, R, Fo, e, trivial, fun s' es => ?_⟩
    cases es
    obtain ⟨x, xs, rfl, e2⟩ := hs s S1 h
    exact ⟨x, xs, rfl, e2, fun F1 H1 J le R1 ok => hk x xs S1 F1 H1 J h e2 le R1 ok⟩
  · rename_i n S1 e
    cases h
    exact ⟨F, ρ, G, fr, S, .rz n, _, R, Fo, e, fun F' H' le R' => hx F' ρ σ H' le (Ag.refl b ρ) R' (Fo.mono le), fun s' es => by cases es⟩
  · cases h
def turnF (L : Lw) (c : Ce) (b : Nat) (t : Tg) (y : T) : D → Fr → Sto → Option (Rr × Fr × Sto) := fun x fr S => match bindT t x fr with
  | some fr1 => evT L c b y fr1 S
  | none => none
theorem rs_for {tg iter : Expr} {l : List Stmt} {t : Tg} {it : E} {y : T} {pos : Pos} (hp : PassesOwn (model X.prog X.w) X.A X.env X.xe) (hc : X.calm = true) (hi : PI X tg iter (rdI g L c W it)) (hg : PG X tg (rdG g t)) (hl : PSs X l (rdS g L c W b y)) (hs : ∀ x, foldedSetIterable iter X.env x = pure x := by intro _; rfl) :
    PS X (.For tg iter l [] pos) (rdS g L c W b (.for t it y)) := psImp (ps_for hp hc hi hg hl hs) fun D σ H q => by
  obtain ⟨F, ρ, G, fr, S, r, fr', S', R, Fo, e, hq⟩ := q
  refine stepSI (k := fun s S1 => match s with
    | .d x => (match seqD x with
      | some xs => forL (turnF L c b t y) xs fr S1
      | none => none)
    | _ => none) R Fo e hq (fun s S1 h1 => ?_) fun x xs S1 F1 H1 J h1 hx1 le R1 ok => ?_
  · try dsimp only at h1
    split at h1
    · rename_i x
      cases q : seqD x with
      | none => rw [q] at h1; cases h1
      | some xs => exact ⟨x, xs, rfl, q⟩
    · cases h1
  · try dsimp only at h1
    rw [hx1] at h1
    dsimp only at h1
    refine ⟨fun i m σ2 Hc => m = xs.length - i ∧ i ≤ xs.length ∧ ∃ F2 ρ2 fr2 S2, Le F1 F2 ∧ Ag b ρ ρ2 ∧ Rel g F2 ρ2 G S2 Hc ∧ Fok g F2 ρ2 fr2 σ2 ∧ forL (turnF L c b t y) (xs.drop i) fr2 S2 = some (r, fr', S'),
      ⟨xs.length, by simp, Nat.zero_le _, F1, ρ, fr, S1, Le.refl F1, Ag.refl b ρ, R1, Fo.mono le, h1⟩, ?_⟩
    rintro i m σ2 Hc ⟨rfl, hi, F2, ρ2, fr2, S2, le2, ag2, R2, Fo2, hc⟩
    have leH : Le F1 Hc := le2.trans R2.sub
    have hq2 := hq.mono (le.trans le2) ag2
    by_cases hlt : i < xs.length
    · right
      have hd : xs[i]? = some xs[i] := List.getElem?_eq_getElem hlt
      obtain ⟨go, yl⟩ := (ok i Hc leH).1 _ hd
      rw [List.drop_eq_getElem_cons hlt] at hc
      refine ⟨go, fun σ3 H3 => ∃ F3 ρ3 fr3 S3, Le F1 F3 ∧ Ag b ρ ρ3 ∧ Rel g F3 ρ3 G S3 H3 ∧ Fok g F3 ρ3 fr3 σ3 ∧ forL (turnF L c b t y) (xs.drop (i + 1)) fr3 S3 = some (r, fr', S'),
        fun σ3 H3 z => ⟨xs.length - (i + 1), by omega, rfl, hlt, z⟩, fun x' H' yy => ?_⟩
      obtain ⟨rfl, rp⟩ := yl x' H' yy
      generalize xs[i] = dx at hc rp
      replace hc : (match turnF L c b t y dx fr2 S2 with
        | some (.nx, fr1, S1) => forL (turnF L c b t y) (xs.drop (i + 1)) fr1 S1
        | some (.bk, fr1, S1) => some (.nx, fr1, S1)
        | r => r) = some (r, fr', S') := hc
      cases q0 : bindT t dx fr2 with
      | none => unfold turnF at hc; rw [q0] at hc; cases hc
      | some fr3 =>
        have e0 : turnF L c b t y dx fr2 S2 = evT L c b y fr3 S2 := by unfold turnF; rw [q0]
        rw [e0] at hc
        refine ⟨F2, ρ2, fr2, dx, fr3, R2.sub, Fo2, rp.mono le2, q0, fun σ3 k3 _ => ?_⟩
        cases q2 : evT L c b y fr3 S2 with
        | none => rw [q2] at hc; cases hc
        | some z =>
          obtain ⟨r4, fr4, S4⟩ := z
          rw [q2] at hc
          refine ⟨F2, ρ2, G, fr3, S2, r4, fr4, S4, R2, k3, q2, ?_⟩
          cases r4 with
          | nx => exact fun F' ρ' σ' H' le4 ag R' k' => ⟨F', ρ', fr4, S4, le2.trans le4, ag2.trans ag, R', k', hc⟩
          | bk =>
            cases (show some (Rr.nx, fr4, S4) = some (r, fr', S') from hc)
            exact fun F' ρ' σ' H' le ag R' k' => hq2 F' ρ' σ' H' le ag R' k'
          | ret y =>
            cases (show some (Rr.ret y, fr4, S4) = some (r, fr', S') from hc)
            exact hq2
          | rz k =>
            cases (show some (Rr.rz k, fr4, S4) = some (r, fr', S') from hc)
            exact hq2
    · left
      have e1 : i = xs.length := by omega
      subst e1
      rw [List.drop_length] at hc
      cases (show some (Rr.nx, fr2, S2) = some (r, fr', S') from hc)
      exact ⟨(ok _ Hc leH).2 (Nat.le_refl _), hq2 F2 ρ2 σ2 Hc (Le.refl F2) (Ag.refl b ρ2) R2 Fo2⟩
/-! ### raise, try -/
theorem rs_raise {k : Nat} {x m : Str} {j : Nat} {p p2 pos pos2 : Pos} (hc : X.calm = true) (tk : Takes X W) (hK : X.K = g.K) (xc : PySem.W.excIn g.K (g.C k) [.type "ValueError", .type "Exception", .type "BaseException", .type "object"] "ValueError.__new__" = true) (gC : X.mg x = some (.ref (g.C k))) (kC : PySem.W.keepIn g.K (.ref (g.C k)) = true)
    (bC : PySem.W.subIn g.K (.ref (g.C k)) (.type "BaseException") = some true) (tC : PySem.W.typeIn g.K (.ref (g.C k)) = some (.type "type")) (hg : Gl X x) (hdb : (x == ("__debug__" : Str)) = false := by decide) :
    PS X (.Raise (some (.Call (.Name x p) [.Constant (.str m) j p2] [] pos)) none pos2) (rdS g L c W b (.rse k)) := by
  rw [← hK] at xc kC bC tC
  refine psImp (ps_raise hc tk (pmk_own PySem.F.excBase_ValueError xc gC kC (raises_own bC tC) hg hdb)) fun D σ H q => ?_
  obtain ⟨F, ρ, G, fr, S, r, fr', S', R, Fo, e, hq⟩ := q
  cases (show some (Rr.rz k, fr, S) = some (r, fr', S') from e)
  exact hq F ρ σ H (Le.refl F) (Ag.refl b ρ) R Fo
theorem rs_try {x n y : Str} {cv : Value} {i j : Nat} {body : List Stmt} {np p1 p2 p3 pos pos' : Pos} {t : T} (hK : X.K = g.K) (hs : X.stack = X.env :: X.outer) (hf : X.env.frame = some X.env.locals) (hex : X.ex = []) (hN : X.N.Nodup) (hi : X.N[i]? = some n) (hj : X.N[j]? = some y) (hij : i ≠ j)
    (hln : X.env.scope.names.lookup n = some .local) (hly : X.env.scope.names.lookup y = some .local) (hc : Names X x cv) (hm : ∀ k, PySem.W.exmOne g.K (.ref (g.C k)) cv = some true) (hdn : (n == ("__debug__" : Str)) = false) (hcn : (n == ("__classdict__" : Str)) = false)
    (hb : ∀ (W : WX) (pn : List (Addr × Obj)) (xe : Value → Shared → Prop), Takes (X.tr pn xe) W → PassesOwn (model X.prog X.w) X.A X.env xe → PSs (X.tr pn xe) body (rdS g L c W b t))
    (hsw : swapsWith (.Name n p2) (some (.Name y p1)) p3.line X.env = pure false := by rfl) :
    PS X (.Try body [.ExceptHandler (some (.Name x np)) (some n) [.Assign [.Name y p1] (.Name n p2) p3] pos'] [] [] pos) (rdS g L c W b (.tryc i j t)) :=
  psImp (ps_tryK (tb := fun W => rdS g L c W b t) hs hf hex hN hi hj hln hly hc hdn hcn hb hsw) fun D σ H q => by
    obtain ⟨F, ρ, G, fr, S, r, fr', S', R, Fo, e, hq⟩ := q
    replace e : (match evT L c b t fr S with
      | some (.rz k, fr1, S1) => some (.nx, (fr1.set j (.d (.exc k))).set i .un, S1)
      | r => r) = some (r, fr', S') := e
    cases q1 : evT L c b t fr S with
    | none => rw [q1] at e; cases e
    | some z =>
      obtain ⟨r1, fr1, S1⟩ := z
      rw [q1] at e
      refine ⟨F, ρ, G, fr, S, r1, fr1, S1, R, Fo, q1, ?_⟩
      cases r1 with
      | nx => cases (show some (Rr.nx, fr1, S1) = some (r, fr', S') from e); exact hq
      | ret y => cases (show some (Rr.ret y, fr1, S1) = some (r, fr', S') from e); exact hq
      | bk => cases (show some (Rr.bk, fr1, S1) = some (r, fr', S') from e); exact hq
      | rz k =>
        cases (show some (Rr.nx, (fr1.set j (.d (.exc k))).set i .un, S1) = some (r, fr', S') from e)
        intro F' ρ' σ' H' le ag R' k'
        refine ⟨by rw [hK]; exact hm k, rfl, fun a na => ?_⟩
        have le2 : Le F' (upd F' a (ExK (.ref (g.C k)) a)) := Le.new (R'.fresh na).1
        refine hq _ ρ' _ _ (le.trans le2) ag (R'.newF na) ?_
        have z := ((k'.mono le2).set (s := .d (.exc k)) (v := .ref a) j (.exc upd_same)).setUn i none
        rw [List.set_comm _ _ hij, List.set_set]
        exact z
/-! ### lists that change -/
theorem rs_apd {a d : Expr} {ia id : E} {ap cp pos : Pos} (hK : X.K = g.K) (ha : PE X a (rdE g L c W ia)) (hd : PE X d (rdE g L c W id)) (hs : swapsWith (.Call (.Attribute a "append" ap) [d] [] cp) none pos.line X.env = pure false := by rfl)
    (h1 : starEach [d] X.env = (false, eval d X.env) :: starEach [] X.env := by rfl) (hbase : attributeBase a "append" X.env (eval a X.env) = eval a X.env := by rfl)
    (hfew : ((backTo cp (starEach (d :: []) X.env)).all (fun x => !x.1) && (backToKw cp (keywordEach [] X.env)).all (fun x => x.1.isSome) && decide ((d :: ([] : List Expr)).length + ([] : List Keyword).length + (if ([] : List Keyword).isEmpty then 0 else 1) < 30)) = true := by rfl)
    (hline : (ap.endLine == cp.line) = true := by rfl) (hpl : (backTo cp (starEach [] X.env)).any (·.1) = false := by rfl) :
    PS X (.Expr (.Call (.Attribute a "append" ap) [d] [] cp) pos) (rdS g L c W b (.apd ia id)) :=
  psImp (ps_expr (pe_bm PySem.F.plainAttrs_list PySem.F.slot_list_append PySem.F.type_list_append mt_append ha (pa_cons hd pa_nil h1) hbase hfew hline h1 hpl) hs) fun D σ H q => by
    obtain ⟨F, ρ, G, fr, S, r, fr', S', R, Fo, e, hq⟩ := q
    have hz := line_eq
    refine stepSE (k := fun t S1 => match t with
      | .ref j => (match S1[j]? with
        | some (.live (.lst _)) => bndE fr (evE L c id fr S1) fun s S2 => (match s with
          | .d y => (match S2[j]? with
            | some (.live (.lst xs)) => if Nat.ble xs.length 1000000 then some (.nx, fr, S2.set j (.live (.lst (xs ++ [y])))) else none
            | _ => none)
          | _ => none)
        | _ => none)
      | _ => none) R Fo e hq fun s S1 F1 H1 v h1 le R1 sv => ?_
    try dsimp only at h1
    split at h1
    · rename_i j
      obtain ⟨ad, had, rfl⟩ := sv
      split at h1
      · rename_i xs0 q0
        obtain ⟨a', ha', c1, o, c2, c3⟩ := R1.cell j _ q0
        rw [had] at ha'; cases ha'
        cases o <;> first | exact c3.elim | skip
        refine ⟨.inl ⟨rfl, _, SqL.of c2⟩, ?_⟩
        refine stepSE (k := fun s S2 => (match s with
          | .d y => (match S2[j]? with
            | some (.live (.lst xs)) => if Nat.ble xs.length 1000000 then some (.nx, fr, S2.set j (.live (.lst (xs ++ [y])))) else none
            | _ => none)
          | _ => none)) R1 (Fo.mono le) h1 (hq.mono le (Ag.refl b ρ)) fun s S2 F2 H2 w h2 le2 R2 sw => ?_
        try dsimp only at h2
        split at h2
        · rename_i y
          split at h2
          · rename_i xs q3
            split at h2
            · rename_i hb
              cases h2
              have hb := Nat.le_of_ble_eq_true hb
              obtain ⟨a', ha', d1, o, d2, d3⟩ := R2.cell j _ q3
              rw [had] at ha'; cases ha'
              cases o <;> first | exact d3.elim | skip
              rename_i vs
              have d3 : Reps g F2 xs vs := d3
              have l1 := d3.length
              refine ⟨_, vs, w, rfl, rfl, d2, by omega, ?_⟩
              exact hq F2 ρ σ _ (le.trans le2) (Ag.refl b ρ) (R2.write q3 had (show ObR g F2 (.lst (xs ++ [y])) (.lst (vs ++ [w])) from d3.append (.cons sw .nil))) ((Fo.mono le).mono le2)
            · cases h2
          · cases h2
        · cases h2
      · cases h1
    · cases h1
theorem rs_setx {o i e : Expr} {io ii ie : E} {tp pos : Pos} (he : PE X e (rdE g L c W ie)) (ho : PE X o (rdE g L c W io)) (hi : PE X i (rdE g L c W ii))
    (ha : ∀ v, assign (.Subscript o i tp) X.env v = (do
      let ov ← holding [v] (eval o X.env)
      let iv ← holding [v, ov] (eval i X.env)
      standAt tp
      holding [v, ov, iv] (setItem ov iv v)
      release [v, ov, iv] []) := by intro _; rfl)
    (hs : swapsWithSole [.Subscript o i tp] e pos.line X.env = pure false := by rfl) (hw : swappedStores [.Subscript o i tp] e X.env = pure none := by rfl) (h1 : (assignEach [.Subscript o i tp] X.env).map (·.2) = [assign (.Subscript o i tp) X.env] := by rfl) :
    PS X (.Assign [.Subscript o i tp] e pos) (rdS g L c W b (.setx io ii ie)) := psImp (ps_asg he (pg_sub ho hi set_list ha) hs hw h1) fun D σ H q => by
  obtain ⟨F, ρ, G, fr, S, r, fr', S', R, Fo, e, hq⟩ := q
  refine stepSE (k := fun s S1 => bndE fr (evE L c io fr S1) fun t S2 => bndE fr (evE L c ii fr S2) fun u S3 => setK fr s t u S3) R Fo e hq fun s S1 F1 H1 v h1 le R1 sv => ?_
  refine stepSE (k := fun t S2 => bndE fr (evE L c ii fr S2) fun u S3 => setK fr s t u S3) R1 (Fo.mono le) h1 (hq.mono le (Ag.refl b ρ)) fun t S2 F2 H2 w h2 le2 R2 sw => ?_
  refine stepSE (k := fun u S3 => setK fr s t u S3) R2 ((Fo.mono le).mono le2) h2 ((hq.mono le (Ag.refl b ρ)).mono le2 (Ag.refl b ρ)) fun u S3 F3 H3 z h3 le3 R3 sz => ?_
  obtain ⟨y, j, i, rfl, rfl, rfl, h4⟩ : ∃ y j i, s = .d y ∧ t = .ref j ∧ u = .d (.int i) ∧ (match S3[j]? with
      | some (.live (.lst xs)) => (match ixN xs.length i with
        | some m => some (Rr.nx, fr, S3.set j (.live (.lst (xs.set m y))))
        | none => none)
      | _ => none) = some (r, fr', S') := by
    cases s with
    | un => cases h3
    | ref _ => cases h3
    | d y =>
      cases t with
      | un => cases h3
      | d _ => cases h3
      | ref j =>
        cases u with
        | un => cases h3
        | ref _ => cases h3
        | d x =>
          cases x <;> first | (cases h3; done) | exact ⟨y, j, _, rfl, rfl, rfl, h3⟩
  obtain ⟨ad, had, rfl⟩ := sw
  cases (show Rep g F3 (.int i) z from sz)
  split at h4
  · rename_i xs q3
    split at h4
    · rename_i m em
      cases h4
      obtain ⟨a', ha', d1, o, d2, d3⟩ := R3.cell j _ q3
      rw [had] at ha'; cases ha'
      cases o <;> first | exact d3.elim | skip
      rename_i vs
      have d3 : Reps g F3 xs vs := d3
      refine ⟨_, vs, i, m, rfl, rfl, d2, by rw [← d3.length]; exact em, ?_⟩
      exact hq F3 ρ σ _ ((le.trans le2).trans le3) (Ag.refl b ρ) (R3.write q3 had (show ObR g F3 (.lst (xs.set m y)) (.lst (vs.set m v)) from d3.set ((show Rep g F1 y v from sv).mono (le2.trans le3)) m)) (((Fo.mono le).mono le2).mono le3)
    · cases h4
  · cases h4
end
end Cm

/-! defs and the law -/
namespace Cm
open PySem PySem.Spec PyProof.Rows L2
section
variable {g : Gx} {L : Lw} {Pr : List Fn} {P : Program} {w : World} {mg : Str → Option Value} {base : Heap}
theorem call_len_eq {n f : Nat} {as : List Sl} {S : Sto} {z : Cr × Sto} {Fd : Fn} (hf : Pr[f]? = some Fd) (h : callE L Pr n f as S = some z) : as.length = Fd.p := by
  cases n with
  | zero => cases h
  | succ n =>
    replace h : (match Pr[f]? with
      | some F => if (as.length == F.p) = true then ends S.length (evT L (callE L Pr n) S.length F.body (fr0 F as) (S ++ List.replicate F.m .dead)) else none
      | none => none) = some z := h
    rw [hf] at h
    dsimp only at h
    split at h
    · rename_i q
      exact beq_iff_eq.mp q
    · cases h
theorem fok0 {F : Hp} {ρ : List Addr} {as : List Sl} {vs : List V} {N : List Str} {Fd : Fn} {k : Nat} (sl : SlVs g F ρ as vs) (hp : as.length = Fd.p) (hn : Fd.n = N.length) (hle : Fd.p ≤ Fd.n) : Fok g F (ρ ++ List.replicate k 0) (fr0 Fd as) (L2.start N vs) := by
  have l1 := sl.length
  have get : ∀ {l : List Sl} {us : List V}, SlVs g F ρ l us → ∀ (i : Nat) (s : Sl), l[i]? = some s → ∃ v, us[i]? = some v ∧ SlV g F ρ s v := by
    intro l us h
    induction h with
    | nil => intro i s e; simp at e
    | cons r t ih =>
      intro i s e
      cases i with
      | zero => simp at e; subst e; exact ⟨_, rfl, r⟩
      | succ i =>
        obtain ⟨v, q1, q2⟩ := ih i s (by simpa using e)
        exact ⟨v, by simpa using q1, q2⟩
  refine ⟨by simp [fr0, L2.start]; omega, fun i s e => ?_⟩
  unfold fr0 at e
  by_cases hi : i < as.length
  · rw [List.getElem?_append_left hi] at e
    obtain ⟨v, q1, q2⟩ := get sl i s e
    refine .inr ⟨v, ?_, ?_⟩
    · unfold L2.start
      rw [List.getElem?_append_left (by rw [List.length_map]; omega), List.getElem?_map, q1]
      rfl
    · cases s with
      | un => exact q2
      | d x => exact q2
      | ref j =>
        obtain ⟨a, z1, z2⟩ := q2
        exact ⟨a, by rw [List.getElem?_append_left (List.getElem?_eq_some_iff.mp z1).1]; exact z1, z2⟩
  · rw [List.getElem?_append_right (by omega), List.getElem?_replicate] at e
    split at e
    · exact .inl (Option.some.inj e).symm
    · cases e
theorem ag0 {b k : Nat} {ρ ρ' : List Addr} (hl : ρ.length = b) (h : Ag b (ρ ++ List.replicate k 0) ρ') : ρ'.take b = ρ := by
  unfold Ag at h
  rw [h, ← hl]
  simp
/-- a def keeps what the evaluator says of it -/
theorem fn_ok {k f : Nat} {x qual : Str} {params : Arguments} {body : List Stmt} {scope : Scope} {kws : List (Str × V)} {fa : Addr} {fd : FuncData} {N ps : List Str} {Fd : Fn} (F : FunD g.K x qual params body scope [] kws fa fd) (Sc : FnScope N ps scope) (hf : Pr[f]? = some Fd) (hp : Fd.p = ps.length) (hn : Fd.n = N.length)
    (hd : ∀ (cdv : Value) (A : Around) (outer : List Env) (s : Shared) (H : Hp) (Ex : XK) (b : Nat), Room k (A.deeper (envOfC qual scope s.heap.objs.size fa cdv)) →
      PSs (cxOf (L2.CX P w) P w g.K mg base N qual scope fa cdv A outer s H Ex) body (rdS g L (callE L Pr k) (fun cls d _ H => Ex cls d H) b Fd.body)) :
    FnOk P w g.K mg base (L2.CX P w) (k + 1) fa fd ps (spF g (callE L Pr (k + 1)) f) := by
  refine F.ok Sc (fun vs H Q E h => ?_) fun cdv A outer s H vs Q E hr hsp => ?_
  · obtain ⟨F1, ρ, G, S, as, r, S', R, sl, ec, _⟩ := h
    rw [← sl.length, call_len_eq hf ec, hp]
  · obtain ⟨F1, ρ, G, S, as, r, S', R, sl, ec, hok, hrz⟩ := hsp
    refine ⟨_, hd cdv A outer s H E S.length hr, ?_⟩
    have hl := call_len_eq hf ec
    replace ec : (match Pr[f]? with
      | some F => if (as.length == F.p) = true then ends S.length (evT L (callE L Pr k) S.length F.body (fr0 F as) (S ++ List.replicate F.m .dead)) else none
      | none => none) = some (r, S') := ec
    rw [hf] at ec
    dsimp only at ec
    rw [if_pos (beq_iff_eq.mpr hl)] at ec
    have hle : Fd.p ≤ Fd.n := by
      rw [hp, hn]
      have := congrArg List.length Sc.pre
      rw [List.length_take] at this
      omega
    cases q : evT L (callE L Pr k) S.length Fd.body (fr0 Fd as) (S ++ List.replicate Fd.m .dead) with
    | none => rw [q] at ec; cases ec
    | some z =>
      obtain ⟨r1, fr', S1⟩ := z
      rw [q] at ec
      refine ⟨F1, ρ ++ List.replicate Fd.m 0, G, fr0 Fd as, S ++ List.replicate Fd.m .dead, r1, fr', S1, R.more Fd.m, fok0 sl hl hn hle, q, ?_⟩
      have key : ∀ {F' : Hp} {ρ' : List Addr} {H' : Hp}, Ag S.length (ρ ++ List.replicate Fd.m 0) ρ' → Rel g F' ρ' G S1 H' → Rel g F' ρ G (S1.take S.length) H' := fun {F' ρ' H'} ag R' => by
        have z := R'.take S.length
        rw [ag0 R.len ag] at z
        exact z
      cases r1 with
      | nx =>
        cases (show some (Cr.ok .non, S1.take S.length) = some (r, S') from ec)
        exact fun F' ρ' σ' H' le ag R' _ => hok _ rfl F' H' _ le (key ag R') .non
      | ret y =>
        cases (show some (Cr.ok y, S1.take S.length) = some (r, S') from ec)
        exact fun F' ρ' H' v le ag R' rp => hok _ rfl F' H' v le (key ag R') rp
      | bk => cases ec
      | rz j =>
        cases (show some (Cr.rz j, S1.take S.length) = some (r, S') from ec)
        exact fun F' ρ' σ' H' le ag R' _ => hrz _ rfl F' H' le (key ag R')
/-- at level 0 nothing is promised -/
theorem fn_zero {f : Nat} {fa : Addr} {fd : FuncData} {ps : List Str} : FnOk P w g.K mg base (L2.CX P w) 0 fa fd ps (spF g (callE L Pr 0) f) :=
  ⟨fun vs H Q E ⟨_, _, _, _, _, _, _, _, _, ec, _⟩ => (by cases ec), fun A outer s H args us vs Q E _ _ _ _ ⟨_, _, _, _, _, _, _, _, _, ec, _⟩ => (by cases ec)⟩
/-- the law's own promise -/
theorem law_sp {n f : Nat} {S' : Sto} {ns : List Int} {H : Hp} {a : Addr} (hS : SqL g.K H a (ns.map V.int)) (h : callE L Pr n f [.d (.scr ns)] [] = some (.ok (.bl true), S')) : spF g (callE L Pr n) f [.ref a] H (fun v _ => v = .bl true) fun _ _ _ => False :=
  ⟨H, [], fun _ => none, [], [.d (.scr ns)], .ok (.bl true), S', ⟨Le.refl H, fun _ _ e => (by cases e), fun j k e => (by simp at e), fun i j a x y e => (by simp at e), rfl⟩, .cons (.scr hS) .nil, h,
    fun x ex F' H' v _ _ rp => (by cases ex; cases rp; rfl), fun k ek => (by cases ek)⟩
end
end Cm

/-! rules in short -/
namespace Cm
open PySem PySem.Spec PyProof.Rows L2
section
variable {g : Gx} {L : Lw} {c : Ce} {W : WX} {X : Cx} {b : Nat}
theorem tk0 : Takes X W0 := fun _ _ x => by
  obtain ⟨_, _, _, _, _, _, _, _, _, _, _, _, _, _, _, _, z⟩ := x
  exact z.elim
theorem re_cst {x : Str} {i : Int} {pos : Pos} (h : ∃ t, X.mg x = some (.int i t)) (hg : Gl X x) (hd : (x == ("__debug__" : Str)) = false := by decide) : PE X (.Name x pos) (rdE g L c W (.lit (.int i))) := by
  obtain ⟨t, h⟩ := h
  exact re_lit (v := .int i) (pe_glob hg h ⟨t, rfl⟩ hd) fun _ => .int i
theorem re_csts {x z : Str} {pos : Pos} (h : ∃ t, X.mg x = some (.str z t)) (hg : Gl X x) (hd : (x == ("__debug__" : Str)) = false := by decide) : PE X (.Name x pos) (rdE g L c W (.lit (.str z))) := by
  obtain ⟨t, h⟩ := h
  exact re_lit (v := .str z) (pe_glob hg h ⟨t, rfl⟩ hd) fun _ => .str z
section
variable {p pos : Pos} {a : Expr} {es : List Expr} {ie : E}
theorem re_len (hK : X.K = g.K) (hm : X.mg "len" = none) (hg : Gl X "len") (ha : PA X (a :: es) (rdA g L c W ie)) (he : starEach (a :: es) X.env = (false, eval a X.env) :: starEach es X.env := by rfl) (hpl : (backTo pos (starEach es X.env)).any (·.1) = false := by rfl) :
    PE X (.Call (.Name "len" p) (a :: es) [] pos) (rdE g L c W (.blt .len ie)) := re_bltF (cb_len hK) hg hm (by decide +kernel) ha (by decide) (by decide) he hpl
theorem re_abs (hm : X.mg "abs" = none) (hg : Gl X "abs") (ha : PA X (a :: es) (rdA g L c W ie)) (he : starEach (a :: es) X.env = (false, eval a X.env) :: starEach es X.env := by rfl) (hpl : (backTo pos (starEach es X.env)).any (·.1) = false := by rfl) :
    PE X (.Call (.Name "abs" p) (a :: es) [] pos) (rdE g L c W (.blt .abs ie)) := re_bltF cb_abs hg hm (by decide +kernel) ha (by decide) (by decide) he hpl
theorem re_all (hK : X.K = g.K) (hc : X.calm = true) (hm : X.mg "all" = none) (hg : Gl X "all") (ha : PA X (a :: es) (rdA g L c W ie)) (he : starEach (a :: es) X.env = (false, eval a X.env) :: starEach es X.env := by rfl) (hpl : (backTo pos (starEach es X.env)).any (·.1) = false := by rfl) :
    PE X (.Call (.Name "all" p) (a :: es) [] pos) (rdE g L c W (.blt .all ie)) := re_bltF (cb_all hK hc) hg hm (by decide +kernel) ha (by decide) (by decide) he hpl
theorem re_any (hK : X.K = g.K) (hc : X.calm = true) (hm : X.mg "any" = none) (hg : Gl X "any") (ha : PA X (a :: es) (rdA g L c W ie)) (he : starEach (a :: es) X.env = (false, eval a X.env) :: starEach es X.env := by rfl) (hpl : (backTo pos (starEach es X.env)).any (·.1) = false := by rfl) :
    PE X (.Call (.Name "any" p) (a :: es) [] pos) (rdE g L c W (.blt .any ie)) := re_bltF (cb_any hK hc) hg hm (by decide +kernel) ha (by decide) (by decide) he hpl
theorem re_sum (hK : X.K = g.K) (hc : X.calm = true) (hm : X.mg "sum" = none) (hg : Gl X "sum") (ha : PA X (a :: es) (rdA g L c W ie)) (he : starEach (a :: es) X.env = (false, eval a X.env) :: starEach es X.env := by rfl) (hpl : (backTo pos (starEach es X.env)).any (·.1) = false := by rfl) :
    PE X (.Call (.Name "sum" p) (a :: es) [] pos) (rdE g L c W (.blt .sum ie)) := re_bltF (cb_sum hK hc) hg hm (by decide +kernel) ha (by decide) (by decide) he hpl
theorem re_max (hK : X.K = g.K) (hc : X.calm = true) (hm : X.mg "max" = none) (hg : Gl X "max") (ha : PA X (a :: es) (rdA g L c W ie)) (he : starEach (a :: es) X.env = (false, eval a X.env) :: starEach es X.env := by rfl) (hpl : (backTo pos (starEach es X.env)).any (·.1) = false := by rfl) :
    PE X (.Call (.Name "max" p) (a :: es) [] pos) (rdE g L c W (.blt .max ie)) := re_bltF (cb_max hK hc) hg hm (by decide +kernel) ha (by decide) (by decide) he hpl
theorem re_tuple (hK : X.K = g.K) (hm : X.mg "tuple" = none) (hg : Gl X "tuple") (ha : PA X (a :: es) (rdA g L c W ie)) (he : starEach (a :: es) X.env = (false, eval a X.env) :: starEach es X.env := by rfl) (hpl : (backTo pos (starEach es X.env)).any (·.1) = false := by rfl) :
    PE X (.Call (.Name "tuple" p) (a :: es) [] pos) (rdE g L c W (.blt .tuple ie)) := re_bltT (cb_tuple hK) hg hm (by decide +kernel) ha (by decide) (by decide) he hpl
theorem re_list (hK : X.K = g.K) (hm : X.mg "list" = none) (hg : Gl X "list") (ha : PA X (a :: es) (rdA g L c W ie)) (he : starEach (a :: es) X.env = (false, eval a X.env) :: starEach es X.env := by rfl) (hpl : (backTo pos (starEach es X.env)).any (·.1) = false := by rfl) :
    PE X (.Call (.Name "list" p) (a :: es) [] pos) (rdE g L c W (.blt .list ie)) := re_bltT (cb_list hK) hg hm (by decide +kernel) ha (by decide) (by decide) he hpl
theorem re_intc (hm : X.mg "int" = none) (hg : Gl X "int") (ha : PA X (a :: es) (rdA g L c W ie)) (he : starEach (a :: es) X.env = (false, eval a X.env) :: starEach es X.env := by rfl) (hpl : (backTo pos (starEach es X.env)).any (·.1) = false := by rfl) :
    PE X (.Call (.Name "int" p) (a :: es) [] pos) (rdE g L c W (.blt .int ie)) := re_bltT cb_int hg hm (by decide +kernel) ha (by decide) (by decide) he hpl
end
/-- xs + ys as a new list that is to change -/
theorem rf_cat {a d : Expr} {ia id : E} {pos : Pos} (ha : PE X a (rdE g L c W ia)) (hd : PE X d (rdE g L c W id)) : PE X (.BinOp a .Add d pos) (rdF g L c W (.bin .add ia id)) :=
  peImp (pe_op op_cat ha hd) fun σ H Q q => by
    obtain ⟨F, ρ, G, fr, S, r, S', R, Fo, e, hx, hq⟩ := q
    have hz := line_eq
    refine step2 (k := fun s t S2 => pk2 S2 s t fun x y => outD S2 (binD .add x y)) R Fo e hx fun s t S2 F2 H2 x y h2 le R2 sx sy => ?_
    obtain ⟨dx, px, h3⟩ := pk1_some h2
    obtain ⟨dy, py, h4⟩ := pk1_some h3
    obtain ⟨z, h5, rfl, rfl⟩ := outD_some h4
    obtain ⟨xs, ex, hk⟩ := hq _ rfl
    cases ex
    have p1 := peek_ok R2 sx px
    have p2 := peek_ok R2 sy py
    replace h5 : addD dx dy = some (.lst xs) := h5
    cases dx <;> cases dy <;> first | (cases h5; done) | skip
    · rename_i x1 x2
      replace h5 : (if Nat.ble (x1.length + x2.length) 1000000 = true then some (D.tup (x1 ++ x2)) else none) = some (.lst xs) := h5
      split at h5 <;> cases h5
    · rename_i x1 x2
      replace h5 : (if Nat.ble (x1.length + x2.length) 1000000 = true then some (D.lst (x1 ++ x2)) else none) = some (.lst xs) := h5
      split at h5
      · rename_i hb
        cases h5
        have hb := Nat.le_of_ble_eq_true hb
        obtain ⟨a1, v1, rfl, q1, r1⟩ := p1
        obtain ⟨a2, v2, rfl, q2, r2⟩ := p2
        have l1 := r1.length
        have l2 := r2.length
        exact ⟨a1, a2, v1, v2, rfl, rfl, q1, q2, by omega, fun p hp => hk F2 _ p _ le (R2.fresh hp).2.1 (R2.newG hp) (r1.append r2)⟩
      · cases h5
/-! facts of an own error's class -/
structure XF (g : Gx) (mg : Str → Option Value) (x : Str) (k : Nat) : Prop where
  gC : mg x = some (.ref (g.C k))
  xc : PySem.W.excIn g.K (g.C k) [.type "ValueError", .type "Exception", .type "BaseException", .type "object"] "ValueError.__new__" = true
  kC : PySem.W.keepIn g.K (.ref (g.C k)) = true
  bC : PySem.W.subIn g.K (.ref (g.C k)) (.type "BaseException") = some true
  tC : PySem.W.typeIn g.K (.ref (g.C k)) = some (.type "type")
theorem rs_rse {k : Nat} {x m : Str} {j : Nat} {p p2 pos pos2 : Pos} (hK : X.K = g.K) (hc : X.calm = true) (tk : Takes X W) (F : XF g X.mg x k) (hg : Gl X x) (hdb : (x == ("__debug__" : Str)) = false := by decide) :
    PS X (.Raise (some (.Call (.Name x p) [.Constant (.str m) j p2] [] pos)) none pos2) (rdS g L c W b (.rse k)) := rs_raise hc tk hK F.xc F.gC F.kC F.bC F.tC hg hdb
/-- isinstance(a, X) -/
theorem re_isx {k : Nat} {x : Str} {a : Expr} {ia : E} {p p2 pos : Pos} (hK : X.K = g.K) (F : XF g X.mg x k) (hL : ∀ j b, L.sub j k = some b → ExcC g.K (g.C j) ∧ PySem.W.kitOne g.K (.ref (g.C j)) (.ref (g.C k)) = some b) (hm : X.mg "isinstance" = none) (hg : Gl X "isinstance") (hx : Gl X x)
    (ha : PE X a (rdE g L c W ia)) (hdb : (x == ("__debug__" : Str)) = false := by decide) (h1 : starEach [a, .Name x p2] X.env = (false, eval a X.env) :: starEach [.Name x p2] X.env := by rfl) (h2 : starEach [.Name x p2] X.env = (false, eval (.Name x p2) X.env) :: starEach [] X.env := by rfl) (hpl : (backTo pos (starEach [.Name x p2] X.env)).any (·.1) = false := by rfl) :
    PE X (.Call (.Name "isinstance" p) [a, .Name x p2] [] pos) (rdE g L c W (.blt (.isi k) (.cons ia .nil))) :=
  re_isi hK (cv := .ref (g.C k)) (fun u r => r) hL hg hm ha (pe_glob hx F.gC rfl hdb) h1 h2 hpl
/-- isinstance(a, ValueError) -/
theorem re_isv {k : Nat} {a : Expr} {ia : E} {p p2 pos : Pos} (hK : X.K = g.K) (hv : X.mg "ValueError" = none) (hL : ∀ j b, L.sub j k = some b → ExcC g.K (g.C j) ∧ PySem.W.kitOne g.K (.ref (g.C j)) (.type "ValueError") = some b) (hm : X.mg "isinstance" = none) (hg : Gl X "isinstance") (hx : Gl X "ValueError")
    (ha : PE X a (rdE g L c W ia)) (h1 : starEach [a, .Name "ValueError" p2] X.env = (false, eval a X.env) :: starEach [.Name "ValueError" p2] X.env := by rfl) (h2 : starEach [.Name "ValueError" p2] X.env = (false, eval (.Name "ValueError" p2) X.env) :: starEach [] X.env := by rfl) (hpl : (backTo pos (starEach [.Name "ValueError" p2] X.env)).any (·.1) = false := by rfl) :
    PE X (.Call (.Name "isinstance" p) [a, .Name "ValueError" p2] [] pos) (rdE g L c W (.blt (.isi k) (.cons ia .nil))) :=
  re_isi hK (cv := .ty "ValueError") (fun u r => r) hL hg hm ha (pe_bltn hx hv (by decide +kernel) rfl (by decide) (by decide)) h1 h2 hpl
end
/-! list.count, list.index over flat things; pop -/
section
variable {g : Gx} {L : Lw} {c : Ce} {W : WX} {X : Cx} {b : Nat}
theorem re_pop {a : Expr} {x : Str} {i : Nat} {p ap cp : Pos} (hK : X.K = g.K) (h : PE X (.Name x p) (tVar i)) (hbase : attributeBase (.Name x p) "pop" X.env (eval (.Name x p) X.env) = eval (.Name x p) X.env := by rfl) (hline : (ap.endLine == cp.line) = true := by rfl) :
    PE X (.Call (.Attribute (.Name x p) "pop" ap) [] [] cp) (rdE g L c W (.pop i)) := peImp (pe_bm0 PySem.F.plainAttrs_list PySem.F.slot_list_pop PySem.F.type_list_pop mt_pop h hbase hline) fun σ H Q q => by
  obtain ⟨F, ρ, G, fr, S, r, S', R, Fo, e, hx, hq⟩ := q
  replace e : (match fr[i]? with
    | some (.ref j) => (match S[j]? with
      | some (.live (.lst xs)) => (match xs.getLast? with
        | some y => some (Xr.v (.d y), S.set j (.live (.lst xs.dropLast)))
        | none => none)
      | _ => none)
    | _ => none) = some (r, S') := e
  split at e
  · rename_i j q0
    rcases Fo.at_ i _ q0 with z | ⟨v, z1, ad, z2, rfl⟩
    · cases z
    · split at e
      · rename_i xs q1
        obtain ⟨a', ha', d1, o, d2, d3⟩ := R.cell j _ q1
        rw [z2] at ha'; cases ha'
        cases o <;> first | exact d3.elim | skip
        rename_i vs
        have d3 : Reps g F xs vs := d3
        split at e
        · rename_i y q2
          cases e
          have l1 := d3.length
          rw [List.getLast?_eq_getElem?] at q2
          obtain ⟨u, u1, u2⟩ := d3.get q2
          refine ⟨_, z1, .inl ⟨rfl, _, SqL.of d2⟩, _, vs, u, rfl, rfl, d2, by rw [← l1]; exact u1, ?_⟩
          exact hq _ rfl F _ u (Le.refl F) (R.write q1 z2 (show ObR g F (.lst xs.dropLast) (.lst vs.dropLast) from d3.dropLast)) u2
        · cases e
      · cases e
  · cases e
end
end Cm

/-! list.count, list.index of flat things -/
namespace Cm
open PySem PySem.Spec PyProof.Rows L2
section
variable {g : Gx} {F H : Hp}
theorem flat_rep {x : D} {v : V} (f : flatD x = true) (r : Rep g F x v) : flatV v = true := by
  cases r <;> first | rfl | cases f
theorem flat_reps : ∀ {xs : List D} {vs : List V}, xs.all flatD = true → Reps g F xs vs → vs.all flatV = true
  | _, _, _, .nil => rfl
  | x :: xs, _, h, .cons r t => by
    rw [List.all_cons, Bool.and_eq_true] at h ⊢
    exact ⟨flat_rep h.1 r, flat_reps h.2 t⟩
theorem eqV_deq {x y : D} {v u : V} (fx : flatD x = true) (fy : flatD y = true) (rx : Rep g F x v) (ry : Rep g F y u) : eqV v u = deq x y := by
  cases rx <;> first | (cases fx; done) | skip
  all_goals (cases ry <;> first | (cases fy; done) | (simp only [eqV, deq]))
theorem cnt_eq {y : D} {u : V} (fy : flatD y = true) (ry : Rep g F y u) : ∀ {xs : List D} {vs : List V}, xs.all flatD = true → Reps g F xs vs → vs.countP (fun z => eqV z u) = xs.countP fun z => deq z y
  | _, _, _, .nil => rfl
  | x :: xs, _, h, .cons r t => by
    rw [List.all_cons, Bool.and_eq_true] at h
    rw [List.countP_cons, List.countP_cons, cnt_eq fy ry h.2 t, eqV_deq h.1 fy r ry]
theorem ixFrom_some {y : D} : ∀ {xs : List D} {n j : Nat}, ixFrom n y xs = some j → ∃ i x, j = n + i ∧ xs[i]? = some x ∧ deq x y = true ∧ ∀ (m : Nat) (z : D), m < i → xs[m]? = some z → deq z y = false
  | [], _, _, h => by cases h
  | x :: xs, n, j, h => by
    unfold ixFrom at h
    split at h
    · rename_i q
      cases h
      exact ⟨0, x, rfl, rfl, q, fun m z hm => absurd hm (Nat.not_lt_zero m)⟩
    · rename_i q
      obtain ⟨i, z, e1, e2, e3, e4⟩ := ixFrom_some h
      refine ⟨i + 1, z, by omega, by simpa using e2, e3, fun m w hm ew => ?_⟩
      cases m with
      | zero =>
        simp at ew
        subst ew
        exact Bool.eq_false_iff.mpr q
      | succ m => exact e4 m w (by omega) (by simpa using ew)
end
section
variable {g : Gx} {L : Lw} {c : Ce} {W : WX} {X : Cx}
def rCnt (K : PySem.W.Frag) : V → List V → Hp → VK → Prop := fun x xs H Q => ∃ (a : Addr) (ys : List V) (y : V), x = .ref a ∧ xs = [y] ∧ SqL K H a ys ∧ flatV y = true ∧ ys.all flatV = true ∧ Q (.int (ys.countP fun z => eqV z y : Nat)) H
theorem countU {x : V} : ∀ {xs : List V} {us : List Value}, Vals xs us → xs.all flatV = true → us.countP (eqU x) = xs.countP fun y => eqV y x
  | _, _, .nil, _ => rfl
  | y :: xs, u :: us, .cons r t, f => by
    rw [List.all_cons, Bool.and_eq_true] at f
    rw [List.countP_cons, List.countP_cons, eqU_of r f.1, countU t f.2]
theorem mt_cnt : MtR X "list.count" (rCnt X.K) := by
  intro pins s σ H x xs v us Q I rx rxs h
  obtain ⟨a, ys, y, rfl, rfl, hs, fy, fys, q⟩ := h
  cases rx
  obtain ⟨uy, rfl, ry⟩ := vals1 rxs
  obtain ⟨its, rv, ⟨⟨oc, dd, od, sl⟩, n, ho, hc, _, hd⟩, _⟩ := I.list hs
  dsimp only at hc hd
  subst hc hd
  refine call_meets PySem.F.slot_list_count ⟨_, ho, rfl⟩ PySem.F.entry_list_count (PySem.F.args_list_count_2 _ _) (SeqAt.list_countAt a its.toArray n dd sl uy (eqU y)) ⟨ho, fun u' hu' => mem_eqAt ry fy rv fys u' (by simpa using hu'), ?_⟩
  refine ⟨.int (ys.countP fun z => eqV z y : Nat), H, I.tok _, ⟨s.toks, ?_⟩, q⟩
  rw [← countU rv fys]
def rMth (g : Gx) (f : Bf) : V → List V → Hp → VK → Prop := fun x xs H Q => ∃ F ρ G S dx dy d y, Rel g F ρ G S H ∧ Pk g F H dx x ∧ xs = [y] ∧ Pk g F H dy y ∧ mthD f dx dy = some d ∧ ∀ F' H' v, Le F F' → Rel g F' ρ G S H' → Rep g F' d v → Q v H'
theorem flat_pk {F H : Hp} {x : D} {v : V} (f : flatD x = true) (p : Pk g F H x v) : Rep g F x v := by
  cases x <;> first | exact p | cases f
theorem mt_cntD (hK : X.K = g.K) : MtR X "list.count" (rMth g .cnt) := by
  intro pins s σ H x xs v us Q I rx rxs h
  obtain ⟨F, ρ, G, S, dx, dy, d, y, R, px, rfl, py, e, q⟩ := h
  cases dx <;> first | (cases e; done) | skip
  rename_i xs
  replace e : (if (flatD dy && xs.all flatD) = true then some (D.int (xs.countP fun z => deq z dy : Nat)) else none) = some d := e
  split at e
  · rename_i hb
    cases e
    obtain ⟨f1, f2⟩ := Bool.and_eq_true_iff.mp hb
    obtain ⟨a, vs, rfl, p, rs⟩ := px
    have ry := flat_pk f1 py
    refine mt_cnt pins s σ H _ _ v us Q I rx rxs ⟨a, vs, y, rfl, rfl, SqL.of p, flat_rep f1 ry, flat_reps f2 rs, ?_⟩
    rw [cnt_eq f1 ry f2 rs]
    exact q F H _ (Le.refl F) R (.int _)
  · cases e
theorem mt_ixD (hK : X.K = g.K) : MtR X "list.index" (rMth g .ix) := by
  intro pins s σ H x xs v us Q I rx rxs h
  obtain ⟨F, ρ, G, S, dx, dy, d, y, R, px, rfl, py, e, q⟩ := h
  cases dx <;> first | (cases e; done) | skip
  rename_i xs
  replace e : (if (flatD dy && xs.all flatD) = true then (ixFrom 0 dy xs).map (fun j => D.int (j : Nat)) else none) = some d := e
  split at e
  · rename_i hb
    obtain ⟨f1, f2⟩ := Bool.and_eq_true_iff.mp hb
    obtain ⟨a, vs, rfl, p, rs⟩ := px
    have ry := flat_pk f1 py
    cases q0 : ixFrom 0 dy xs with
    | none => rw [q0] at e; cases e
    | some j =>
      rw [q0] at e
      cases e
      obtain ⟨i, z, e1, e2, e3, e4⟩ := ixFrom_some q0
      have e1 : j = i := by omega
      subst e1
      obtain ⟨w, h1, h2⟩ := rs.get e2
      have fl : ∀ (m : Nat) (z : D), xs[m]? = some z → flatD z = true := fun m z ez => List.all_eq_true.mp f2 z (List.mem_of_getElem? ez)
      refine mt_index pins s σ H _ _ v us Q I rx rxs ⟨a, vs, y, j, w, rfl, rfl, SqL.of p, flat_rep f1 ry, flat_reps f2 rs, h1, by rw [eqV_deq (fl j z e2) f1 h2 ry]; exact e3, fun m z' hm ez => ?_, q F H _ (Le.refl F) R (.int _)⟩
      obtain ⟨zd, g1, g2⟩ := rs.getV ez
      rw [eqV_deq (fl m zd g1) f1 g2 ry]
      exact e4 m zd hm g1
  · cases e
theorem mth_rd {f : Bf} {ia iy : E} {σ : L2.St} {H : Hp} {Q : VK} (hK : X.K = g.K) (q : rdE g L c W (.mth f ia iy) σ H Q) : tBM X.K "list" (rMth g f) (rdE g L c W ia) (tCons (rdE g L c W iy) tNil) σ H Q := by
  obtain ⟨F, ρ, G, fr, S, r, S', R, Fo, e, hx, hq⟩ := q
  refine stepE (k := fun s S1 => match peek S1 s with
    | some (.lst _) => bnd (evE L c iy fr S1) fun t S2 => pk2 S2 s t fun x y => outD S2 (mthD f x y)
    | _ => none) R Fo e hx fun s S1 F1 H1 x h1 le R1 sx => ?_
  try dsimp only at h1
  split at h1
  · rename_i xs q0
    obtain ⟨a, vs, rfl, p, _⟩ := peek_ok R1 sx q0
    refine ⟨.inl ⟨rfl, vs, SqL.of p⟩, ?_⟩
    refine stepE (k := fun t S2 => pk2 S2 s t fun x y => outD S2 (mthD f x y)) R1 (Fo.mono le) h1 (hx.mono le) fun t S2 F2 H2 y h2 le2 R2 sy => ?_
    obtain ⟨dx, px, h3⟩ := pk1_some h2
    obtain ⟨dy, py, h4⟩ := pk1_some h3
    obtain ⟨d, h5, rfl, rfl⟩ := outD_some h4
    exact ⟨F2, ρ, G, _, dx, dy, d, y, R2, peek_ok R2 (sx.mono le2) px, rfl, peek_ok R2 sy py, h5, fun F' H' v le' R' rp => hq _ rfl F' H' v ((le.trans le2).trans le') R' rp⟩
  · cases h1
section
variable {a y : Expr} {ia iy : E} {ap cp : Pos}
theorem re_cnt (hK : X.K = g.K) (ha : PE X a (rdE g L c W ia)) (hy : PE X y (rdE g L c W iy)) (h1 : starEach [y] X.env = (false, eval y X.env) :: starEach [] X.env := by rfl) (hbase : attributeBase a "count" X.env (eval a X.env) = eval a X.env := by rfl)
    (hfew : ((backTo cp (starEach (y :: []) X.env)).all (fun x => !x.1) && (backToKw cp (keywordEach [] X.env)).all (fun x => x.1.isSome) && decide ((y :: ([] : List Expr)).length + ([] : List Keyword).length + (if ([] : List Keyword).isEmpty then 0 else 1) < 30)) = true := by rfl)
    (hline : (ap.endLine == cp.line) = true := by rfl) (hpl : (backTo cp (starEach [] X.env)).any (·.1) = false := by rfl) :
    PE X (.Call (.Attribute a "count" ap) [y] [] cp) (rdE g L c W (.mth .cnt ia iy)) :=
  peImp (pe_bm PySem.F.plainAttrs_list PySem.F.slot_list_count PySem.F.type_list_count (mt_cntD hK) ha (pa_cons hy pa_nil h1) hbase hfew hline h1 hpl) fun σ H Q q => mth_rd hK q
theorem re_ix (hK : X.K = g.K) (ha : PE X a (rdE g L c W ia)) (hy : PE X y (rdE g L c W iy)) (h1 : starEach [y] X.env = (false, eval y X.env) :: starEach [] X.env := by rfl) (hbase : attributeBase a "index" X.env (eval a X.env) = eval a X.env := by rfl)
    (hfew : ((backTo cp (starEach (y :: []) X.env)).all (fun x => !x.1) && (backToKw cp (keywordEach [] X.env)).all (fun x => x.1.isSome) && decide ((y :: ([] : List Expr)).length + ([] : List Keyword).length + (if ([] : List Keyword).isEmpty then 0 else 1) < 30)) = true := by rfl)
    (hline : (ap.endLine == cp.line) = true := by rfl) (hpl : (backTo cp (starEach [] X.env)).any (·.1) = false := by rfl) :
    PE X (.Call (.Attribute a "index" ap) [y] [] cp) (rdE g L c W (.mth .ix ia iy)) :=
  peImp (pe_bm PySem.F.plainAttrs_list PySem.F.slot_list_index PySem.F.type_list_index (mt_ixD hK) ha (pa_cons hy pa_nil h1) hbase hfew hline h1 hpl) fun σ H Q q => mth_rd hK q
end
/-- a built-in that is never come to: its argument raises -/
theorem aft_rd {ia : E} {σ : L2.St} {H : Hp} {Q : VK} (q : rdE g L c W (.aft ia) σ H Q) : tCB (fun _ _ _ => False) (tCons (rdE g L c W ia) tNil) σ H Q := by
  obtain ⟨F, ρ, G, fr, S, r, S', R, Fo, e, hx, hq⟩ := q
  replace e : (match evE L c ia fr S with
    | some (.rz k, S1) => some (Xr.rz k, S1)
    | _ => none) = some (r, S') := e
  split at e
  · rename_i k S1 e1
    cases e
    exact ⟨F, ρ, G, fr, S, .rz k, _, R, Fo, e1, hx, fun s es => by cases es⟩
  · cases e
theorem re_aftF {id : String} {x : Str} {p pos : Pos} {a : Expr} {ia : E} (hg : Gl X x) (hm : X.mg x = none) (hv : bootBuiltins x = some (.builtin id)) (ha : PE X a (rdE g L c W ia)) (hn : x ≠ "__name__" := by decide) (hdb : (x == ("__debug__" : Str)) = false := by decide) (he : starEach [a] X.env = (false, eval a X.env) :: starEach [] X.env := by rfl)
    (hpl : (backTo pos (starEach [] X.env)).any (·.1) = false := by rfl) : PE X (.Call (.Name x p) [a] [] pos) (rdE g L c W (.aft ia)) :=
  peImp (pe_callB (r := fun _ _ _ => False) (fun _ _ _ _ _ _ _ _ _ h => h.elim) hg hm hv (pa_cons ha pa_nil he) hn hdb he hpl) fun σ H Q q => aft_rd q
theorem re_aftT {id : String} {x : Str} {p pos : Pos} {a : Expr} {ia : E} (hg : Gl X x) (hm : X.mg x = none) (hv : bootBuiltins x = some (.type id)) (ha : PE X a (rdE g L c W ia)) (hn : x ≠ "__name__" := by decide) (hdb : (x == ("__debug__" : Str)) = false := by decide) (he : starEach [a] X.env = (false, eval a X.env) :: starEach [] X.env := by rfl)
    (hpl : (backTo pos (starEach [] X.env)).any (·.1) = false := by rfl) : PE X (.Call (.Name x p) [a] [] pos) (rdE g L c W (.aft ia)) :=
  peImp (pe_callTy (r := fun _ _ _ => False) (fun _ _ _ _ _ _ _ _ _ h => h.elim) hg hm hv (pa_cons ha pa_nil he) hn hdb he hpl) fun σ H Q q => aft_rd q
end
end Cm

/-! the end -/
namespace Cm
open PySem PySem.Spec PyProof.Rows L2
/-- the law's end: its def promises, at some level k, what the evaluator says -/
theorem walkW {l : PySem.W.OpenLaw} {n k : Nat} {q : Program} {loose : List Str} {XP : (Str → Option Value) → Heap → Prop} {YP : World → Heap → Prop} {d : DefRec} {x : Str} (hn : l.most = some n) (hn2 : n ≤ sizeLine) (hdf : d.params.defaults = []) (hr : Room k callerA)
    (F : ∀ (w : World) (mg : Str → Option Value) (fa : Addr) (h : Heap), YP w h → h.Ns mainGlobals mg → mg d.name = some (.ref fa) →
      ∃ (K : PySem.W.Frag) (fd : FuncData) (sp : Sp), K.In h ∧ (∀ (s : Shared) (u : Value), BindsTo s fd ⟨[u], []⟩ [(x, u)]) ∧ (∀ (H : Hp) (a : Addr) (ns : List Int), ns.length ≤ n → SqL K H a (ns.map V.int) → sp [.ref a] H (fun v _ => v = .bl true) fun _ _ _ => False) ∧
        ∀ base : Heap, FnOk l.prog w K mg base (L2.CX l.prog w) k fa fd [x] sp) : PySem.W.WalkO q loose XP YP l.row.toRowW d [] (fun f vs => PySem.call f vs) :=
  Att.attach_call hn hdf fun w s₀ s₁ mg mb fa o pm cd doc a vs ns G Y _ _ _ hmg hobj hints hlen hg => by
    obtain ⟨K, fd, sp, KX, hb, hsp, hF⟩ := F w mg fa _ Y G.T.g hmg
    refine law_call KX G.T.g G.T.b G.T.builtins G.T.nolimit hg hobj hints (Nat.le_trans hlen hn2) hr (fun base _ _ => hF base) hb (fun H _ hS => hsp H a ns hlen hS) fun H e s' z => ?_
    obtain ⟨_, _, _, _, _, _, _, _, _, _, _, _, z⟩ := z
    exact z.elim
end Cm

/-! more rules: in, min, isinstance of built-in classes, [::-1], a display read, insert -/
namespace Cm
open PySem PySem.Spec PyProof.Rows L2
section
variable {g : Gx} {L : Lw} {c : Ce} {W : WX} {F G H : Hp} {ρ : List Addr} {S S' : Sto} {fr : Fr} {σ : L2.St} {r : Xr} {X : Cx} {b : Nat}
theorem toPL_any (x : D) (hx : pln 50 x = true) : ∀ (ys : List D) (n : Nat), plnL n ys = true → ((toPL ys).any fun z => PyData.eqv z (toP x)) = ys.any fun z => deq z x
  | [], _, _ => rfl
  | y :: ys, n, h => by
    have h2 : (pln n y && plnL n ys) = true := h
    obtain ⟨h3, h4⟩ := Bool.and_eq_true_iff.mp h2
    show (PyData.eqv (toP y) (toP x) || (toPL ys).any fun z => PyData.eqv z (toP x)) = (deq y x || ys.any fun z => deq z x)
    rw [eqv_deq y x n 50 h3 hx, toPL_any x hx ys n h4]
theorem pln_shaped50 {x : D} (h : pln 50 x = true) : (toP x).canLay0 = true ∧ (toP x).depth ≤ 50 := ⟨pln_lay x 50 h, pln_depth x 50 h⟩
theorem op_inE (hK : X.K = g.K) (hu : X.A.units + 64 < cLine) : OpR X (compareOp .In) (r2B g (cmpD .isin)) := by
  intro pins s σ H x y v u Q I rx ry h
  obtain ⟨F, ρ, G, S, dx, dy, b, R, px, py, e, q⟩ := h
  replace e : inD dx dy = some b := e
  cases dy <;> first | (cases e; done) | skip
  · rename_i ys
    replace e : (if (pln 50 dx && pln 50 (.tup ys)) = true then some (ys.any fun z => deq z dx) else none) = some b := e
    split at e
    · rename_i hp
      obtain ⟨h1, h2⟩ := Bool.and_eq_true_iff.mp hp
      cases e
      have d1 := Pk.dp (g := g) R.sub h1 px
      have d2 := Pk.dp (g := g) R.sub h2 py
      rw [← hK] at d1 d2
      obtain ⟨as, r1⟩ := Dp.reads I _ x v d1 rx
      obtain ⟨bs, r2⟩ := Dp.reads I _ y u d2 ry
      obtain ⟨l1, l2⟩ := pln_shaped50 h1
      refine SeqAt.in_tuple_reads r2 r1 (plnL_lay ys 49 h2) l1 (Nat.lt_of_le_of_lt (Nat.add_le_add_left (Nat.min_le_right _ _) _) (by omega)) ⟨.bl _, H, I, rfl, ?_⟩
      rw [toPL_any dx h1 ys 49 h2]
      exact q
    · cases e
  · rename_i ys
    replace e : (if (pln 50 dx && pln 50 (.lst ys)) = true then some (ys.any fun z => deq z dx) else none) = some b := e
    split at e
    · rename_i hp
      obtain ⟨h1, h2⟩ := Bool.and_eq_true_iff.mp hp
      cases e
      have d1 := Pk.dp (g := g) R.sub h1 px
      have d2 := Pk.dp (g := g) R.sub h2 py
      rw [← hK] at d1 d2
      obtain ⟨as, r1⟩ := Dp.reads I _ x v d1 rx
      obtain ⟨bs, r2⟩ := Dp.reads I _ y u d2 ry
      obtain ⟨l1, l2⟩ := pln_shaped50 h1
      refine SeqAt.in_list_reads r2 r1 (plnL_lay ys 49 h2) l1 (Nat.lt_of_le_of_lt (Nat.add_le_add_left (Nat.min_le_right _ _) _) (by omega)) ⟨.bl _, H, I, rfl, ?_⟩
      rw [toPL_any dx h1 ys 49 h2]
      exact q
    · cases e
theorem op_ninE (hK : X.K = g.K) (hu : X.A.units + 64 < cLine) : OpR X (compareOp .NotIn) (r2B g (cmpD .nin)) := by
  intro pins s σ H x y v u Q I rx ry h
  obtain ⟨F, ρ, G, S, dx, dy, b, R, px, py, e, q⟩ := h
  replace e : (inD dx dy).map (fun b => !b) = some b := e
  cases dy <;> first | (cases e; done) | skip
  · rename_i ys
    replace e : (if (pln 50 dx && pln 50 (.tup ys)) = true then some (ys.any fun z => deq z dx) else none).map (fun b => !b) = some b := e
    split at e
    · rename_i hp
      obtain ⟨h1, h2⟩ := Bool.and_eq_true_iff.mp hp
      cases e
      have d1 := Pk.dp (g := g) R.sub h1 px
      have d2 := Pk.dp (g := g) R.sub h2 py
      rw [← hK] at d1 d2
      obtain ⟨as, r1⟩ := Dp.reads I _ x v d1 rx
      obtain ⟨bs, r2⟩ := Dp.reads I _ y u d2 ry
      obtain ⟨l1, l2⟩ := pln_shaped50 h1
      refine SeqAt.notIn_tuple_reads r2 r1 (plnL_lay ys 49 h2) l1 (Nat.lt_of_le_of_lt (Nat.add_le_add_left (Nat.min_le_right _ _) _) (by omega)) ⟨.bl _, H, I, rfl, ?_⟩
      rw [toPL_any dx h1 ys 49 h2]
      exact q
    · cases e
  · rename_i ys
    replace e : (if (pln 50 dx && pln 50 (.lst ys)) = true then some (ys.any fun z => deq z dx) else none).map (fun b => !b) = some b := e
    split at e
    · rename_i hp
      obtain ⟨h1, h2⟩ := Bool.and_eq_true_iff.mp hp
      cases e
      have d1 := Pk.dp (g := g) R.sub h1 px
      have d2 := Pk.dp (g := g) R.sub h2 py
      rw [← hK] at d1 d2
      obtain ⟨as, r1⟩ := Dp.reads I _ x v d1 rx
      obtain ⟨bs, r2⟩ := Dp.reads I _ y u d2 ry
      obtain ⟨l1, l2⟩ := pln_shaped50 h1
      refine SeqAt.notIn_list_reads r2 r1 (plnL_lay ys 49 h2) l1 (Nat.lt_of_le_of_lt (Nat.add_le_add_left (Nat.min_le_right _ _) _) (by omega)) ⟨.bl _, H, I, rfl, ?_⟩
      rw [toPL_any dx h1 ys 49 h2]
      exact q
    · cases e
theorem cb_min2 (hc : X.calm = true) : CallR X (.builtin "min") (rBlt g L .min2) := by
  intro pins s σ H xs us Q I rv h
  obtain ⟨F, ρ, G, S, ds, d, R, pk, e, q⟩ := h
  cases pk with
  | nil => cases e
  | @cons x v _ _ p pr =>
    cases pr with
    | nil => cases x <;> cases e
    | @cons y w _ _ p2 pr2 =>
      cases pr2 with
      | cons _ _ => cases x <;> cases y <;> cases e
      | nil =>
        cases x <;> cases y <;> first | (cases e; done) | skip
        cases e
        cases p; cases p2
        exact call_min2 hc pins s σ H _ us Q I rv ⟨_, _, rfl, q F H _ (Le.refl F) R (.int _)⟩
/-- one argument, read -/
theorem blt1 {f : Bf} {ia : E} (e : evE L c (.blt f (.cons ia .nil)) fr S = some (r, S')) : bnd (evE L c ia fr S) (fun s S1 => pk1 S1 s fun x => outD S1 (bltD L f [x])) = some (r, S') := by
  replace e : bndL (bnd (evE L c ia fr S) fun s S1 => bndL (some (.vs [], S1)) fun l S2 => some (.vs (s :: l), S2)) (fun l S1 => match peekL S1 l with
    | some xs => outD S1 (bltD L f xs)
    | none => none) = some (r, S') := e
  revert e
  cases evE L c ia fr S with
  | none => intro z; cases z
  | some z =>
    obtain ⟨xr, S1⟩ := z
    cases xr with
    | vs l => intro z; cases z
    | rz n => intro z; exact z
    | v s =>
      intro z
      replace z : (match peekL S1 [s] with
        | some xs => outD S1 (bltD L f xs)
        | none => none) = some (r, S') := z
      show pk1 S1 s (fun x => outD S1 (bltD L f [x])) = some (r, S')
      unfold peekL peekL at z
      unfold pk1
      cases q : peek S1 s with
      | none => rw [q] at z; cases z
      | some x => rw [q] at z; exact z
/-- isinstance(a, T), T a built-in class -/
def kiB (K : PySem.W.Frag) (u : String) : Bool := ["NoneType", "bool", "int", "str", "list", "tuple"].all fun t => decide (PySem.W.kitOne K (.type t) (.type u) = some (t == u))
theorem kiB_at {K : PySem.W.Frag} {u t : String} (h : kiB K u = true) (m : t ∈ ["NoneType", "bool", "int", "str", "list", "tuple"]) : PySem.W.kitOne K (.type t) (.type u) = some (t == u) := of_decide_eq_true (List.all_eq_true.mp h t m)
def tyN : Nat → String
  | 0 => "str"
  | 1 => "bool"
  | 2 => "list"
  | 3 => "tuple"
  | _ => "dict"
def nmD : D → String
  | .non => "NoneType"
  | .bl _ => "bool"
  | .int _ => "int"
  | .str _ => "str"
  | .lst _ => "list"
  | .tup _ => "tuple"
  | _ => ""
theorem istD_nm {k : Nat} {x : D} {b : Bool} (h : istD k x = some b) : nmD x ∈ ["NoneType", "bool", "int", "str", "list", "tuple"] ∧ b = (nmD x == tyN k) := by
  have hk : k = 0 ∨ k = 1 ∨ k = 2 ∨ k = 3 ∨ 4 ≤ k := by omega
  have hz : ∀ k, 4 ≤ k → tyN k = "dict" := fun k hk => by
    match k, hk with
    | k + 4, _ => rfl
  rcases hk with rfl | rfl | rfl | rfl | hk
  · cases x <;> first | (cases h; done) | (cases h; exact ⟨by simp [nmD], rfl⟩)
  · cases x <;> first | (cases h; done) | (cases h; exact ⟨by simp [nmD], rfl⟩)
  · cases x <;> first | (cases h; done) | (cases h; exact ⟨by simp [nmD], rfl⟩)
  · cases x <;> first | (cases h; done) | (cases h; exact ⟨by simp [nmD], rfl⟩)
  · rw [hz k hk]
    have k0 : (k == 0) = false := beq_eq_false_iff_ne.mpr (by omega)
    have k1 : (k == 1) = false := beq_eq_false_iff_ne.mpr (by omega)
    have k2 : (k == 2) = false := beq_eq_false_iff_ne.mpr (by omega)
    have k3 : (k == 3) = false := beq_eq_false_iff_ne.mpr (by omega)
    cases x <;> first | (cases h; done) | skip
    all_goals
      simp only [istD, k0, k1, k2, k3, Option.some.injEq] at h
      subst h
      exact ⟨by simp [nmD], rfl⟩
theorem istD_ty {k : Nat} {x : D} {v : V} {b : Bool} (h : istD k x = some b) (R : Rel g F ρ G S H) (p : Pk g F H x v) : TyX X.K H v (.type (nmD x)) := by
  cases x <;> first | (cases h; done) | skip
  · cases p; exact .base .non
  · cases p; exact .base (.bl _)
  · cases p; exact .base (.int _)
  · cases p; exact .base (.str _)
  · cases p with | tup p1 r1 => exact .base (.tup (R.sub _ _ p1))
  · obtain ⟨a1, vs1, rfl, p1, r1⟩ := p
    exact .base (.lst p1)
theorem re_ist {k : Nat} {a : Expr} {ia : E} {x : Str} {p p2 pos : Pos} (hK : X.K = g.K) (hb : kiB g.K (tyN k) = true) (hmx : X.mg x = none) (hgx : Gl X x) (hm : X.mg "isinstance" = none) (hg : Gl X "isinstance") (hv : bootBuiltins x = some (.type (tyN k)))
    (ha : PE X a (rdE g L c W ia)) (hnx : x ≠ "__name__" := by decide) (hdx : (x == ("__debug__" : Str)) = false := by decide) (h1 : starEach [a, .Name x p2] X.env = (false, eval a X.env) :: starEach [.Name x p2] X.env := by rfl) (h2 : starEach [.Name x p2] X.env = (false, eval (.Name x p2) X.env) :: starEach [] X.env := by rfl) (hpl : (backTo pos (starEach [.Name x p2] X.env)).any (·.1) = false := by rfl) :
    PE X (.Call (.Name "isinstance" p) [a, .Name x p2] [] pos) (rdE g L c W (.blt (.ist k) (.cons ia .nil))) :=
  peImp (pe_callB call_isi hg hm (by decide +kernel) (pa_cons ha (pa_cons (pe_bltn (v := .ty (tyN k)) hgx hmx hv rfl hnx hdx) pa_nil h2) h1) (by decide) (by decide) h1 hpl) fun σ H Q q => by
    obtain ⟨F, ρ, G, fr, S, r, S', R, Fo, e, hx, hq⟩ := q
    refine stepE (k := fun s S1 => pk1 S1 s fun x => outD S1 (bltD L (.ist k) [x])) R Fo (blt1 e) hx fun s S1 F1 H1 v h1 le R1 sv => ?_
    obtain ⟨x, px, h3⟩ := pk1_some h1
    obtain ⟨d, h5, rfl, rfl⟩ := outD_some h3
    replace h5 : (istD k x).map .bl = some d := h5
    cases q0 : istD k x with
    | none => rw [q0] at h5; cases h5
    | some b =>
      rw [q0] at h5
      cases h5
      obtain ⟨m, eb⟩ := istD_nm q0
      refine ⟨v, .ty (tyN k), .type (nmD x), .type (tyN k), b, rfl, .ty _, istD_ty q0 R1 (peek_ok R1 sv px), ?_, hq _ rfl F1 H1 _ le R1 (.bl b)⟩
      rw [hK, kiB_at hb m, eb]
/-- xs[::-1] -/
theorem re_rev {a : Expr} {ia : E} {k : Nat} {p1 p2 p3 pos : Pos} (hK : X.K = g.K) (ha : PE X a (rdE g L c W ia)) : PE X (.Subscript a (.Slice none none (some (.UnaryOp .USub (.Constant (.int 1) k p1) p2)) p3) pos) (rdE g L c W (.blt .rev (.cons ia .nil))) :=
  peImp (pe_revL ha) fun σ H Q q => by
    obtain ⟨F, ρ, G, fr, S, r, S', R, Fo, e, hx, hq⟩ := q
    refine stepE (k := fun s S1 => pk1 S1 s fun x => outD S1 (bltD L .rev [x])) R Fo (blt1 e) hx fun s S1 F1 H1 v h1 le R1 sv => ?_
    obtain ⟨x, px, h3⟩ := pk1_some h1
    obtain ⟨d, h5, rfl, rfl⟩ := outD_some h3
    cases x <;> first | (cases h5; done) | skip
    rename_i xs
    cases (show some (D.lst xs.reverse) = some d from h5)
    obtain ⟨a1, vs1, rfl, p1, r1⟩ := peek_ok R1 sv px
    refine ⟨a1, vs1, rfl, SqL.of p1, fun p hp => ?_⟩
    have le2 : Le F1 (upd F1 p (.lst vs1.reverse)) := Le.new (R1.fresh hp).1
    have rr : ∀ {xs : List D} {vs : List V}, Reps g F1 xs vs → Reps g F1 xs.reverse vs.reverse := fun {xs vs} h => by
      induction xs generalizing vs with
      | nil => cases h; exact .nil
      | cons x xs ih =>
        cases h with
        | cons h1 h2 =>
          rw [List.reverse_cons, List.reverse_cons]
          exact (ih h2).append (.cons h1 .nil)
    exact hq _ rfl _ _ _ (le.trans le2) (R1.newF hp) (.lst upd_same ((rr r1).mono le2))
/-! ### {k: v, ..}[i] -/
def consE : List E → E
  | [] => .nil
  | e :: es => .cons e (consE es)
theorem pairs_ok : ∀ (ks : List Int) (es : List E), ks.length = es.length → ∀ {F G H : Hp} {S S' : Sto} {r : Xr} {Qp : List (V × V) → Hp → Prop}, Rel g F ρ G S H → Fok g F ρ fr σ → evE L c (consE es) fr S = some (r, S') → PoX g W F ρ G σ S' r →
    (∀ l, r = .vs l → ∀ F' H' vs, Le F F' → Rel g F' ρ G S' H' → SlVs g F' ρ l vs → Qp ((ks.map V.int).zip vs) H') → tPairs ((ks.zip es).map fun p => (tC (.int p.1), rdE g L c W p.2)) σ H Qp
  | [], [], _, F, G, H, S, S', r, Qp, R, Fo, e, hx, hq => by
    cases (show some (Xr.vs [], S) = some (r, S') from e)
    exact hq [] rfl F H [] (Le.refl F) R .nil
  | [], _ :: _, h, _, _, _, _, _, _, _, _, _, _, _, _ => by cases h
  | _ :: _, [], h, _, _, _, _, _, _, _, _, _, _, _, _ => by cases h
  | k :: ks, a :: es, h, F, G, H, S, S', r, Qp, R, Fo, e, hx, hq => by
    show rdE g L c W a σ H fun y H2 => tPairs ((ks.zip es).map fun p => (tC (.int p.1), rdE g L c W p.2)) σ H2 fun ps H3 => Qp ((.int k, y) :: ps) H3
    refine stepE (k := fun s S1 => bndL (evE L c (consE es) fr S1) fun l S2 => some (.vs (s :: l), S2)) R Fo e hx fun s S1 F1 H1 x h1 le R1 sx => ?_
    unfold bndL at h1
    split at h1
    · rename_i l S2 e2
      cases h1
      refine pairs_ok ks es (by simpa using h) R1 (Fo.mono le) e2 trivial fun l2 el F2 H2 vs le2 R2 sl => ?_
      cases el
      exact hq _ rfl F2 H2 _ (le.trans le2) R2 (.cons (sx.mono le2) sl)
    · rename_i m S2 e2
      cases h1
      exact pairs_ok ks es (by simpa using h) R1 (Fo.mono le) e2 (hx.mono le) fun l2 el => by cases el
    · cases h1
theorem valV_merge : ∀ (kvs acc : List (Key × V)) (j : Key), (kvs.map (·.1)).Nodup → valV (mergeK acc kvs) j = (valV kvs j).or (valV acc j)
  | [], acc, j, _ => by simp [mergeK, valV]
  | p :: kvs, acc, j, h => by
    obtain ⟨h1, h2⟩ := List.nodup_cons.mp (show (p.1 :: kvs.map (·.1)).Nodup from h)
    show valV (mergeK (putK acc p.1 p.2) kvs) j = _
    rw [valV_merge kvs _ j h2]
    by_cases e : p.1 = j
    · rw [valV_pos (p := p) (r := kvs) e]
      have no : valV kvs j = none := by
        cases q : valV kvs j with
        | none => rfl
        | some v =>
          exfalso
          unfold valV at q
          cases q2 : kvs.find? (fun kv => decide (kv.1 = j)) with
          | none => rw [q2] at q; cases q
          | some z =>
            have m := List.mem_of_find?_eq_some q2
            have z2 := List.find?_some q2
            have z3 : z.1 = j := of_decide_eq_true z2
            exact h1 (by rw [e, ← z3]; exact List.mem_map.mpr ⟨z, m, rfl⟩)
      rw [no]
      show valV (putK acc p.1 p.2) j = some p.2
      rw [valV_put, if_pos e.symm]
    · rw [valV_neg (p := p) (r := kvs) e]
      cases valV kvs j with
      | some v => rfl
      | none =>
        show valV (putK acc p.1 p.2) j = valV acc j
        rw [valV_put, if_neg (fun z => e z.symm)]
theorem ixI_val {F : Hp} {i : Int} : ∀ (ks : List Int) (xs : List D) (vs : List V) (d : D), Reps g F xs vs → ixI i ks xs = some d → ∃ v, valV ((ks.zip vs).map fun p => ((Sum.inl p.1 : Key), p.2)) (.inl i) = some v ∧ Rep g F d v
  | [], _, _, _, _, e => by cases e
  | _ :: _, [], _, _, _, e => by cases e
  | k :: ks, x :: xs, _, d, .cons r t, e => by
    rename_i v vs
    have e2 : (if k = i then some x else ixI i ks xs) = some d := e
    by_cases h : k = i
    · rw [if_pos h] at e2
      cases e2
      exact ⟨v, valV_pos (by rw [h]), r⟩
    · rw [if_neg h] at e2
      obtain ⟨u, h1, h2⟩ := ixI_val ks xs vs d t e2
      exact ⟨u, by
        show valV (((Sum.inl k : Key), v) :: _) _ = _
        rw [valV_neg (fun z => h (Sum.inl.inj z))]; exact h1, h2⟩
theorem re_dsel {ks : List Int} {es : List E} {ia : E} {keys : List (Option Expr)} {values : List Expr} {a : Expr} {pos p2 : Pos} (hr : X.A.units + 64 < cLine) (h : PPs X p2 keys values ((ks.zip es).map fun p => (tC (.int p.1), rdE g L c W p.2))) (ha : PE X a (rdE g L c W ia)) (hl : keys.length = values.length) (hs : NoSl a)
    (hkl : ks.length = es.length) (hn : ks.Nodup) (h15 : ks.length ≤ 15) (hke : keys.length = ks.length) (h0 : keys ≠ []) (hall : keys.all (·.isSome) = true) : PE X (.Subscript (.Dict keys values p2) a pos) (rdE g L c W (.dsel ks (consE es) ia)) :=
  peImp (pe_dget (by omega) (pe_disp h hall hl h0 (by omega)) ha hs) fun σ H Q q => by
    obtain ⟨F, ρ, G, fr, S, r, S', R, Fo, e, hx, hq⟩ := q
    intro p hp
    obtain ⟨f1, f2, f3⟩ := R.fresh hp
    have leG : Le G (upd G p (.dK [])) := Le.new f2
    replace e : bndL (evE L c (consE es) fr S) (fun l S1 => match datL l with
      | some xs => bnd (evE L c ia fr S1) fun s S2 => match s with
        | .d y => outD S2 (dselD ks y xs)
        | _ => none
      | none => none) = some (r, S') := e
    have hx2 : PoX g W F ρ (upd G p (.dK [])) σ S' r := by
      cases r with
      | rz k => exact fun F' H' l R' => hx F' H' l (R'.lessG leG)
      | v s => trivial
      | vs l => trivial
    unfold bndL at e
    split at e
    · rename_i l S1 e1
      refine pairs_ok ks es hkl (R.newG hp) Fo e1 trivial fun l' el F1 H1 vs le1 R1 sl => ?_
      cases el
      try dsimp only at e
      cases q1 : datL l with
      | none => rw [q1] at e; cases e
      | some xs =>
        rw [q1] at e
        have rs := sl.dat q1
        have g1 := (R1.oth p _ upd_same).1
        refine ⟨g1, (ks.zip vs).map fun q => ((Sum.inl q.1 : Key), q.2), ?_, ?_, ?_⟩
        · rw [List.zip_map_left, List.map_map]
          refine List.map_congr_left fun q _ => rfl
        · rw [List.length_map, List.length_zip]
          omega
        · have R2 := R1.setG (o := .dK (mergeK [] ((ks.zip vs).map fun q => ((Sum.inl q.1 : Key), q.2)))) upd_same
          have leG2 : Le G (upd (upd G p (.dK [])) p (.dK (mergeK [] ((ks.zip vs).map fun q => ((Sum.inl q.1 : Key), q.2))))) := fun a u ea => by
            have ne : a ≠ p := fun z => by rw [z, f2] at ea; cases ea
            rw [upd_ne ne, upd_ne ne]; exact ea
          have hx3 : PoX g W F1 ρ (upd (upd G p (.dK [])) p (.dK (mergeK [] ((ks.zip vs).map fun q => ((Sum.inl q.1 : Key), q.2))))) σ S' r := by
            cases r with
            | rz k => exact fun F' H' l R' => hx F' H' (le1.trans l) (R'.lessG leG2)
            | v s => trivial
            | vs l => trivial
          refine stepE (k := fun s S2 => match s with
            | .d y => outD S2 (dselD ks y xs)
            | _ => none) R2 (Fo.mono le1) e hx3 fun s S2 F2 H2 y h2 le2 R3 sy => ?_
          try dsimp only at h2
          split at h2
          · rename_i dy
            obtain ⟨d, h5, rfl, rfl⟩ := outD_some h2
            cases dy <;> first | (cases h5; done) | skip
            rename_i i
            replace h5 : (if Nat.beq xs.length ks.length = true then ixI i ks xs else none) = some d := h5
            split at h5
            · cases (show Rep g F2 (.int i) y from sy)
              obtain ⟨v, v1, v2⟩ := ixI_val ks xs vs d (rs.mono le2) h5
              refine ⟨p, v, rfl, ?_, hq _ rfl F2 H2 v (le1.trans le2) (R3.lessG leG2) v2⟩
              have g2 := (R3.oth p _ upd_same).1
              have dg := DGet.k (k := .inl i) g2
              have nd : (((ks.zip vs).map fun q => ((Sum.inl q.1 : Key), q.2)).map (·.1)).Nodup := by
                have e : ((ks.zip vs).map fun q => ((Sum.inl q.1 : Key), q.2)).map (·.1) = (ks.take vs.length).map Sum.inl := by
                  rw [List.map_map]
                  have : ∀ (ks : List Int) (vs : List V), (ks.zip vs).map ((·.1) ∘ fun q => ((Sum.inl q.1 : Key), q.2)) = (ks.take vs.length).map Sum.inl := fun ks => by
                    induction ks with
                    | nil => intro vs; simp
                    | cons k ks ih =>
                      intro vs
                      cases vs with
                      | nil => simp
                      | cons v vs => simp [ih]
                  exact this ks vs
                rw [e]
                exact List.Pairwise.map _ (fun a b h z => h (Sum.inl.inj z)) ((List.take_sublist _ _).nodup hn)
              rw [valV_merge _ _ _ nd, v1] at dg
              exact dg
            · cases h5
          · cases h2
    · rename_i m S1 e1
      cases e
      exact pairs_ok ks es hkl (R.newG hp) Fo e1 hx2 fun l' el => by cases el
    · cases e
end
end Cm

/-! sorted of ints, of tuples of ints -/
namespace Cm
open PySem PySem.Spec PyProof.Rows L2
section
variable {α : Type} {lt : α → α → Bool}
theorem insB_perm (x : α) : ∀ l : List α, (insB lt x l).Perm (x :: l)
  | [] => List.Perm.refl _
  | y :: r => by
    unfold insB
    split
    · exact ((insB_perm x r).cons y).trans (List.Perm.swap x y r)
    · exact List.Perm.refl _
theorem sortB_perm : ∀ l : List α, (sortB lt l).Perm l
  | [] => List.Perm.refl _
  | x :: r => (insB_perm x _).trans ((sortB_perm r).cons x)
/-- nothing behind is less -/
abbrev UpB (lt : α → α → Bool) (l : List α) : Prop := l.Pairwise fun a b => lt b a = false
theorem insB_up (O : SrtO.Swo lt) (x : α) : ∀ l : List α, UpB lt l → UpB lt (insB lt x l)
  | [], _ => List.pairwise_singleton _ _
  | y :: r, h => by
    obtain ⟨h1, h2⟩ := List.pairwise_cons.mp h
    unfold insB
    split
    · rename_i c
      refine List.pairwise_cons.mpr ⟨fun z hz => ?_, insB_up O x r h2⟩
      rcases List.mem_cons.mp ((insB_perm x r).mem_iff.mp hz) with e | e
      · rw [e]; exact O.asym y x c
      · exact h1 z e
    · rename_i c
      have c : lt y x = false := by simpa using c
      refine List.pairwise_cons.mpr ⟨fun z hz => ?_, h⟩
      rcases List.mem_cons.mp hz with e | e
      · rw [e]; exact c
      · exact O.tr x y z c (h1 z e)
theorem sortB_up (O : SrtO.Swo lt) : ∀ l : List α, UpB lt (sortB lt l)
  | [] => List.Pairwise.nil
  | x :: r => insB_up O x _ (sortB_up O r)
/-- one arrangement only, where what is not less either way is the same -/
theorem up_uniq (O : SrtO.Swo lt) (an : ∀ a b, lt a b = false → lt b a = false → a = b) : ∀ {l m : List α}, UpB lt l → UpB lt m → l.Perm m → l = m
  | [], m, _, _, h => h.nil_eq
  | x :: l, [], _, _, h => absurd h.length_eq (by simp)
  | x :: l, y :: m, hl, hm, h => by
    obtain ⟨l1, l2⟩ := List.pairwise_cons.mp hl
    obtain ⟨m1, m2⟩ := List.pairwise_cons.mp hm
    have e : x = y := by
      refine an x y ?_ ?_
      · rcases List.mem_cons.mp (h.mem_iff.mp (List.mem_cons_self (a := x) (l := l))) with e | e
        · rw [e]; exact O.refl y
        · exact m1 x e
      · rcases List.mem_cons.mp (h.mem_iff.mpr (List.mem_cons_self (a := y) (l := m))) with e | e
        · rw [e]; exact O.refl x
        · exact l1 y e
    subst e
    rw [up_uniq O an l2 m2 h.cons_inv]
end
theorem lexI_asym : ∀ (a b : List Int), lexI a b = true → lexI b a = false
  | [], [], h => by cases h
  | [], _ :: _, _ => rfl
  | _ :: _, [], h => by cases h
  | i :: r, j :: q, h => by
    have h2 : (if i = j then lexI r q else decide (i < j)) = true := h
    show (if j = i then lexI q r else decide (j < i)) = false
    by_cases e : i = j
    · rw [if_pos e] at h2
      rw [if_pos e.symm]
      exact lexI_asym r q h2
    · rw [if_neg e] at h2
      rw [if_neg fun z => e z.symm]
      have := of_decide_eq_true h2
      exact decide_eq_false (by omega)
theorem lexI_tr : ∀ (a b c : List Int), lexI b a = false → lexI c b = false → lexI c a = false
  | [], [], c, _, h => h
  | [], _ :: _, [], _, h => by cases h
  | [], _ :: _, _ :: _, _, _ => rfl
  | _ :: _, [], _, h, _ => by cases h
  | _ :: _, _ :: _, [], _, h => by cases h
  | i :: a, j :: b, k :: c, h1, h2 => by
    have h1 : (if j = i then lexI b a else decide (j < i)) = false := h1
    have h2 : (if k = j then lexI c b else decide (k < j)) = false := h2
    show (if k = i then lexI c a else decide (k < i)) = false
    by_cases e1 : j = i
    · rw [if_pos e1] at h1
      by_cases e2 : k = j
      · rw [if_pos e2] at h2
        rw [if_pos (e2.trans e1)]
        exact lexI_tr a b c h1 h2
      · rw [if_neg e2] at h2
        rw [if_neg fun z => e2 (z.trans e1.symm)]
        have := of_decide_eq_false h2
        exact decide_eq_false (by omega)
    · rw [if_neg e1] at h1
      have w1 := of_decide_eq_false h1
      by_cases e2 : k = j
      · rw [if_neg (by omega)]
        exact decide_eq_false (by omega)
      · rw [if_neg e2] at h2
        have w2 := of_decide_eq_false h2
        rw [if_neg (by omega)]
        exact decide_eq_false (by omega)
theorem lexI_an : ∀ (a b : List Int), lexI a b = false → lexI b a = false → a = b
  | [], [], _, _ => rfl
  | [], _ :: _, h, _ => by cases h
  | _ :: _, [], _, h => by cases h
  | i :: a, j :: b, h1, h2 => by
    have h1 : (if i = j then lexI a b else decide (i < j)) = false := h1
    have h2 : (if j = i then lexI b a else decide (j < i)) = false := h2
    by_cases e : i = j
    · rw [if_pos e] at h1
      rw [if_pos e.symm] at h2
      rw [e, lexI_an a b h1 h2]
    · rw [if_neg e] at h1
      rw [if_neg fun z => e z.symm] at h2
      have := of_decide_eq_false h1
      have := of_decide_eq_false h2
      omega
theorem lexI_swo : SrtO.Swo lexI := ⟨lexI_asym, lexI_tr⟩
theorem int_swo : SrtO.Swo (fun i j : Int => decide (i < j)) := ⟨fun x y h => decide_eq_false (by have := of_decide_eq_true h; omega), fun x y z h1 h2 => decide_eq_false (by have := of_decide_eq_false h1; have := of_decide_eq_false h2; omega)⟩
theorem int_an (a b : Int) (h1 : decide (a < b) = false) (h2 : decide (b < a) = false) : a = b := by
  have := of_decide_eq_false h1
  have := of_decide_eq_false h2
  omega
end Cm
/-! ### the machine's comparison of tuples of ints -/
namespace Cm
open PySem PyProof.Rows Srt SrtO
section
variable {prog : Program} {w : World} {A : Around} {s : Shared} {Q : Bool → Shared → Prop}
theorem lexI_walk {b : Bool} {xs ys : List Value} {ns ms : List Int} (hx : IntsAre xs ns) : ∀ (i : Nat), IntsAre ys ms → ns.length = ms.length → Q (lexI ns ms) s → PySem.W.KatLex prog w A b false Q (xs.zip ys) i s := by
  induction hx generalizing ys ms with
  | nil =>
    intro i hy hl h
    cases hy with
    | nil => exact PySem.W.kat_nil h
    | cons q u hy => cases hl
  | @cons p t xs ns hx ih =>
    intro i hy hl h
    cases hy with
    | nil => cases hl
    | @cons q u ys ms hy =>
      have h : Q (if p = q then lexI ns ms else decide (p < q)) s := h
      show PySem.W.KatLex prog w A b false Q ((Value.int p t, Value.int q u) :: xs.zip ys) i s
      refine PySem.W.kat_cons (wpAny_eqBool_int ?_)
      by_cases e : p = q
      · rw [if_pos e] at h
        rw [beq_iff_eq.mpr e]
        exact PySem.W.kat_yes (ih (i + 1) hy (Nat.succ.inj hl) h)
      · rw [if_neg e] at h
        rw [show (p == q) = false from beq_eq_false_iff_ne.mpr e]
        exact PySem.W.kat_no (TS.oneLt_ints _ h)
theorem tups_cmp {d : Nat} {vs : List Value} {k : Value → List Int} {b : Bool} (hp : ∀ v ∈ vs, TS.TupInts s.heap v (k v) ∧ (k v).length = d) : Cmp prog w A s (tuples' b) (fun p => p.1 ∈ vs) (lt2 fun v u => lexI (k v) (k u)) := by
  intro p q m1 m2
  obtain ⟨t1, l1⟩ := hp _ m1
  obtain ⟨t2, l2⟩ := hp _ m2
  show wpAny (model prog w) A (keyLt' (tuples' b) p.1 q.1) (fun r s' => s' = s ∧ r = lexI (k p.1) (k q.1)) (fun _ _ => False) s
  generalize k p.1 = n1 at *
  generalize k q.1 = n2 at *
  obtain ⟨a, xs, e1, ⟨o, ho, hc, n, hd⟩, i1⟩ := t1
  obtain ⟨a', ys, e2, ⟨o', ho', hc', n', hd'⟩, i2⟩ := t2
  rw [e1, e2]
  refine PySem.W.kat_lt ho hd ho' hd' ?_
  have sz : decide (xs.size < ys.size) = false := by
    have z1 := i1.length
    have z2 := i2.length
    rw [Array.length_toList] at z1 z2
    exact decide_eq_false (by omega)
  rw [sz]
  exact lexI_walk (Q := fun r s' => s' = s ∧ r = lexI n1 n2) i1 0 i2 (by omega) ⟨rfl, rfl⟩
theorem tups_first {h : Heap} {d : Nat} {k : Value → List Int} (hd : 1 ≤ d) : ∀ vs : List Value, (∀ v ∈ vs, TS.TupInts h v (k v) ∧ (k v).length = d) → ∃ fs, PySem.W.KatTups h vs fs ∧ fs.length = vs.length ∧ ∀ f ∈ fs, ∃ n t, f = Value.int n t
  | [], _ => ⟨[], .nil, rfl, fun _ hf => nomatch hf⟩
  | v :: vs, x => by
    obtain ⟨fs, kt, kl, ki⟩ := tups_first hd vs fun u hu => x u (List.mem_cons_of_mem _ hu)
    obtain ⟨⟨a, xs, ev, ⟨o, ho, hc, n, hdt⟩, i⟩, hn⟩ := x v List.mem_cons_self
    generalize k v = nv at *
    cases qx : xs.toList with
    | nil =>
      have z := i.length
      rw [qx, hn] at z
      exact absurd z (by simp; omega)
    | cons y ys =>
      obtain ⟨m, t, hy⟩ := i.all y (by rw [qx]; exact List.mem_cons_self)
      refine ⟨y :: fs, ?_, congrArg Nat.succ kl, fun f hf => ?_⟩
      · rw [ev]
        refine PySem.W.KatTups.cons ho hc hdt ?_ kt
        have z := congrArg (fun l : List Value => l[0]?) qx
        simpa using z
      · rcases List.mem_cons.mp hf with e | e
        · exact ⟨m, t, e.trans hy⟩
        · exact ki f e
theorem tups_sortable {a : Addr} {d : Nat} {vs : List Value} {k : Value → List Int} (hd : 1 ≤ d) (h0 : 0 < vs.length) (hp : ∀ v ∈ vs, TS.TupInts s.heap v (k v) ∧ (k v).length = d) (ha : ∀ o, s.heap.get? a = some o → o.cls ≠ .type "tuple") : SortableO prog w A s a vs fun v u => lexI (k v) (k u) := by
  intro h' keep
  have hp' : ∀ v ∈ vs, TS.TupInts h' v (k v) ∧ (k v).length = d := fun v hm => ⟨(hp v hm).1.keeps fun b o e c => keep b o (fun z => by subst z; exact ha o e c) e, (hp v hm).2⟩
  obtain ⟨fs, h1, h2, h3⟩ := tups_first hd vs hp'
  refine ⟨_, fun Q E hq => PySem.W.kat_kind (T := .type "int") h1 (by omega) (fun f hm => ?_) (by rfl) hq, tups_cmp hp'⟩
  obtain ⟨x, t, rfl⟩ := h3 f hm
  exact PySem.W.Looks.now
end
end Cm
namespace Cm
open PySem PySem.Spec PyProof.Rows L2
/-- the ints of a tuple value -/
def rSortL (K : PySem.W.Frag) : List V → Hp → VK → Prop := fun vs H Q => ∃ (a : Addr) (xs : List V) (k : V → List Int) (d : Nat), vs = [V.ref a] ∧ SqL K H a xs ∧ 1 ≤ d ∧ (∀ x ∈ xs, ∃ t, x = V.ref t ∧ SqT K H t ((k x).map V.int) ∧ (k x).length = d) ∧
  ∀ ys p, SrtO.Srtd (fun x y => lexI (k x) (k y)) ys → ys.Perm xs → H p = none → Q (.ref p) (upd H p (.lst ys))
theorem isInts_of {k : List Int} {us : List Value} (h : Vals (k.map V.int) us) : IntsAre us k := h.ints
section
variable {X : Cx}
theorem cr_sortL : CallR X (.builtin "sorted") (rSortL X.K) := by
  intro pins s σ H vs us Q I r h
  obtain ⟨a, xs, k, d, rfl, hs, hd, hx, q⟩ := h
  obtain ⟨its, rv, hl, hz⟩ := I.list hs
  obtain ⟨u, rfl, ru⟩ := vals1 r
  obtain rfl : u = Value.ref a := ru
  obtain ⟨e1, e2⟩ := refs_back rv fun x m => by
    obtain ⟨t, e, _⟩ := hx x m
    exact ⟨t, e⟩
  have ti : ∀ v ∈ its, TS.TupInts s.heap v (k (backV v)) ∧ (k (backV v)).length = d := fun v hv => by
    obtain ⟨t, rfl⟩ := e2 v hv
    have hm : V.ref t ∈ xs := by rw [e1]; exact List.mem_map.mpr ⟨_, hv, rfl⟩
    obtain ⟨t', e, ht, hl'⟩ := hx _ hm
    cases e
    obtain ⟨its2, r2, ⟨o, ho, hc, n, hdt⟩, _⟩ := I.tuple ht
    exact ⟨⟨t, its2.toArray, rfl, ⟨o, ho, hc, n, hdt⟩, (show IntsAre its2.toArray.toList (k (.ref t)) by simpa using isInts_of r2)⟩, hl'⟩
  have sw : SrtO.Swo (fun v u : Value => lexI (k (backV v)) (k (backV u))) := ⟨fun x y => lexI_asym _ _, fun x y z => lexI_tr _ _ _⟩
  refine SrtO.sorted_ord sw hl.isList (by rw [← rv.length]; exact hz) (fun h2 h₁ b ha kk => ?_) fun out hs hb => ?_
  · refine tups_sortable (s := { s with heap := h₁ }) hd (by omega) (fun v hm => ⟨(ti v hm).1.keeps fun b o e _ => (kk b o e).2, (ti v hm).2⟩) fun o e => ?_
    have e' : some o = some (seqObj "list" its.toArray 0) := e.symm.trans ha
    cases e'
    intro c
    exact absurd (Value.type.inj c) (by decide)
  · have h3 : ∀ u ∈ out, ∃ a, u = Value.ref a := fun u hu => e2 u (hb.perm.mem_iff.mp hu)
    obtain ⟨n, hn⟩ := sortedAll_at s.heap its out.toArray
    have pm : (out.map backV).Perm xs := by rw [e1]; exact hb.perm.map backV
    refine ⟨.ref (s.heap.objs.size + 1), upd H (s.heap.objs.size + 1) (.lst (out.map backV)), I.laid (t' := s.toks) (fun b o e => sortedAll_old e) (Nat.le_succ _) ⟨?_, out, n, vals_back h3, hn⟩, rfl, q _ _ (List.pairwise_map.mpr hs) pm (I.hok.fresh (Nat.le_succ _))⟩
    rw [pm.length_eq]
    exact hz
end

theorem tupsI_cons {x : D} {r : List D} {ls : List (List Int)} (h : tupsI (x :: r) = some ls) : ∃ n l, tupI x = some n ∧ tupsI r = some l ∧ ls = n :: l := by
  have h : (match tupI x with
    | some n => (tupsI r).map fun l => n :: l
    | none => none) = some ls := h
  cases q : tupI x with
  | none => rw [q] at h; cases h
  | some n =>
    rw [q] at h
    have h : (tupsI r).map (fun l => n :: l) = some ls := h
    cases q2 : tupsI r with
    | none => rw [q2] at h; cases h
    | some l =>
      rw [q2] at h
      cases h
      exact ⟨n, l, rfl, rfl, rfl⟩
section
variable {g : Gx} {L : Lw} {F G H : Hp} {ρ : List Addr} {S : Sto} {X : Cx}
theorem tupI_rep {x : D} {v : V} {n : List Int} (e : tupI x = some n) (r : Rep g F x v) : ∃ t, v = .ref t ∧ F t = some (.tup (n.map V.int)) := by
  cases x <;> first | (cases e; done) | skip
  cases r with
  | tup p rs =>
    have := rs.ints e
    exact ⟨_, rfl, by rw [← this]; exact p⟩
/-- ints read off a value -/
def kOf (F : Hp) (v : V) : List Int := match v with
  | .ref t => (match F t with
    | some (.tup vs) => vs.map fun
      | .int i => i
      | _ => 0
    | _ => [])
  | _ => []
theorem kOf_at {t : Addr} {n : List Int} (h : F t = some (.tup (n.map V.int))) : kOf F (.ref t) = n := by
  show (match F t with
    | some (.tup vs) => vs.map (fun
      | .int i => i
      | _ => 0)
    | _ => []) = n
  rw [h]
  show (n.map V.int).map _ = n
  rw [List.map_map]
  have : ∀ n : List Int, n.map ((fun
      | .int i => i
      | _ => 0 : V → Int) ∘ V.int) = n := fun n => by
    induction n with
    | nil => rfl
    | cons i n ih => rw [List.map_cons, ih]; rfl
  exact this n
theorem reps_k : ∀ {xs : List D} {vs : List V} {ls : List (List Int)}, Reps g F xs vs → tupsI xs = some ls → vs.map (kOf F) = ls ∧ ∀ v ∈ vs, ∃ t, v = .ref t ∧ F t = some (.tup ((kOf F v).map V.int))
  | _, _, _, .nil, e => by
    cases e
    exact ⟨rfl, fun _ h => nomatch h⟩
  | x :: xs, _, ls, .cons r t, e => by
    obtain ⟨n, l, e1, e2, rfl⟩ := tupsI_cons e
    obtain ⟨a, rfl, ha⟩ := tupI_rep e1 r
    obtain ⟨h1, h2⟩ := reps_k t e2
    have k := kOf_at ha
    refine ⟨by rw [List.map_cons, k, h1], fun v hv => ?_⟩
    rcases List.mem_cons.mp hv with e | e
    · subst e
      exact ⟨a, rfl, by rw [k]; exact ha⟩
    · exact h2 v e
theorem reps_of : ∀ {vs : List V}, (∀ v ∈ vs, ∃ t, v = .ref t ∧ F t = some (.tup ((kOf F v).map V.int))) → Reps g F ((vs.map (kOf F)).map tupO) vs
  | [], _ => .nil
  | v :: vs, h => by
    obtain ⟨t, e, ht⟩ := h v List.mem_cons_self
    refine .cons ?_ (reps_of fun u hu => h u (List.mem_cons_of_mem _ hu))
    subst e
    refine .tup ht ?_
    have : ∀ n : List Int, Reps g F (n.map .int) (n.map V.int) := fun n => by
      induction n with
      | nil => exact .nil
      | cons i n ih => exact .cons (.int i) ih
    exact this _
theorem ints_reps : ∀ (n : List Int), Reps g F (n.map .int) (n.map V.int)
  | [] => .nil
  | i :: n => .cons (.int i) (ints_reps n)
theorem cb_srt (hK : X.K = g.K) : CallR X (.builtin "sorted") (rBlt g L .srt) := by
  intro pins s σ H vs us Q I rv h
  obtain ⟨F, ρ, G, S, ds, d, R, pk, e, q⟩ := h
  cases pk with
  | nil => cases e
  | @cons x v _ _ p pr =>
    cases pr with
    | cons _ _ => cases x <;> cases e
    | nil =>
      cases x <;> first | (cases e; done) | skip
      rename_i xs
      obtain ⟨a1, vs1, rfl, p1, r1⟩ := p
      replace e : srtD xs = some d := e
      unfold srtD at e
      cases q1 : intsD xs with
      | some l =>
        rw [q1] at e
        cases e
        have ev := r1.ints q1
        subst ev
        refine cr_sortedI pins s σ H _ us Q I rv ⟨_, l, rfl, SqL.of p1, fun ns' p pm up hp => ?_⟩
        have eq : ns' = sortB (fun i j => decide (i < j)) l := up_uniq int_swo int_an (up.imp fun {a b} h => decide_eq_false (by omega)) (sortB_up int_swo l) (pm.trans (sortB_perm l).symm)
        subst eq
        have le : Le F (upd F p (.lst ((sortB (fun i j => decide (i < j)) l).map V.int))) := Le.new (R.fresh hp).1
        exact q _ _ _ le (R.newF hp) (.lst upd_same (ints_reps _))
      | none =>
        rw [q1] at e
        replace e : (match tupsI xs with
          | some ls => if ls.all (fun l => Nat.beq l.length (ls.headD []).length && Nat.ble 1 l.length) = true then some (D.lst ((sortB lexI ls).map tupO)) else none
          | none => none) = some d := e
        cases q2 : tupsI xs with
        | none => rw [q2] at e; cases e
        | some ls =>
          rw [q2] at e
          replace e : (if ls.all (fun l => Nat.beq l.length (ls.headD []).length && Nat.ble 1 l.length) = true then some (D.lst ((sortB lexI ls).map tupO)) else none) = some d := e
          split at e
          · rename_i hall
            cases e
            obtain ⟨k1, k2⟩ := reps_k r1 q2
            have hlen : ∀ v ∈ vs1, (kOf F v).length = (ls.headD []).length ∧ 1 ≤ (kOf F v).length := fun v hv => by
              have m : kOf F v ∈ ls := by rw [← k1]; exact List.mem_map.mpr ⟨v, hv, rfl⟩
              have z := List.all_eq_true.mp hall _ m
              obtain ⟨z1, z2⟩ := Bool.and_eq_true_iff.mp z
              exact ⟨Nat.eq_of_beq_eq_true z1, Nat.le_of_ble_eq_true z2⟩
            have key : ∀ d, 1 ≤ d → (∀ v ∈ vs1, (kOf F v).length = d) → rSortL X.K [.ref a1] H Q := fun dd hd1 hall => by
              refine ⟨a1, vs1, kOf F, dd, rfl, SqL.of p1, hd1, fun x hx => ?_, fun ys p up pm hp => ?_⟩
              · obtain ⟨t, e, ht⟩ := k2 x hx
                exact ⟨t, e, SqT.of (R.sub _ _ ht), hall x hx⟩
              · have eq : ys.map (kOf F) = sortB lexI ls := by
                  refine up_uniq lexI_swo lexI_an (List.pairwise_map.mpr up) (sortB_up lexI_swo ls) ?_
                  have pm2 := pm.map (kOf F)
                  rw [k1] at pm2
                  exact pm2.trans (sortB_perm ls).symm
                have le : Le F (upd F p (.lst ys)) := Le.new (R.fresh hp).1
                have rs := reps_of (g := g) (F := F) (vs := ys) fun v hv => k2 v (pm.mem_iff.mp hv)
                rw [eq] at rs
                exact q _ _ _ le (R.newF hp) (.lst upd_same (rs.mono le))
            refine cr_sortL pins s σ H _ us Q I rv ?_
            cases qv : vs1 with
            | nil =>
              exact key 1 (Nat.le_refl _) fun v hv => by rw [qv] at hv; cases hv
            | cons v0 r0 =>
              have m0 : v0 ∈ vs1 := by rw [qv]; exact List.mem_cons_self
              refine key (ls.headD []).length ?_ fun v hv => (hlen v hv).1
              have := hlen v0 m0
              omega
          · cases e
end

theorem nubI_mem {x : List Int} : ∀ {l : List (List Int)}, x ∈ nubI l ↔ x ∈ l
  | [] => Iff.rfl
  | y :: l => by
    unfold nubI
    split
    · rename_i h
      rw [nubI_mem, List.mem_cons]
      constructor
      · exact .inr
      · rintro (e | e)
        · rw [e]; exact nubI_mem.mp (List.contains_iff_mem.mp h)
        · exact e
    · rw [List.mem_cons, List.mem_cons, nubI_mem]
theorem nubI_nodup : ∀ l : List (List Int), (nubI l).Nodup
  | [] => List.nodup_nil
  | y :: l => by
    unfold nubI
    split
    · exact nubI_nodup l
    · rename_i h
      exact List.nodup_cons.mpr ⟨fun z => h (List.contains_iff_mem.mpr z), nubI_nodup l⟩
theorem nodup_le : ∀ {l m : List (List Int)}, l.Nodup → (∀ x ∈ l, x ∈ m) → l.length ≤ m.length
  | [], _, _, _ => Nat.zero_le _
  | x :: l, m, h, s => by
    obtain ⟨h1, h2⟩ := List.nodup_cons.mp h
    have hm := s x List.mem_cons_self
    have := nodup_le (m := m.erase x) h2 fun y hy => (List.mem_erase_of_ne (fun e => h1 (by rw [← e]; exact hy))).mpr (s y (List.mem_cons_of_mem _ hy))
    rw [List.length_erase_of_mem hm] at this
    have := List.length_pos_of_mem hm
    rw [List.length_cons]
    omega
section
variable {g : Gx} {L : Lw} {c : Ce} {W : WX} {X : Cx}
theorem re_nset {a : Expr} {ia : E} {p p2 q pos : Pos} (hK : X.K = g.K) (hc : X.calm = true) (hu : X.A.units + 64 < cLine) (hm : X.mg "len" = none) (hg : Gl X "len") (hm2 : X.mg "set" = none) (hg2 : Gl X "set") (ha : PE X a (rdE g L c W ia))
    (na : starEach [a] X.env = (false, eval a X.env) :: starEach [] X.env := by rfl) : PE X (.Call (.Name "len" p) [.Call (.Name "set" p2) [a] [] q] [] pos) (rdE g L c W (.blt .nset (.cons ia .nil))) := by
  refine ⟨fun pins s σ H Q I h => ?_⟩
  obtain ⟨F, ρ, G, fr, S, r, S', R, Fo, e, hx, hq⟩ := h
  have st : rdE g L c W ia σ H fun x H1 => ∃ F1 xs d, Le F F1 ∧ Rel g F1 ρ G S' H1 ∧ Pk g F1 H1 (.lst xs) x ∧ nsetD xs = some d ∧ r = .v (.d d) := by
    refine stepE (k := fun s S1 => pk1 S1 s fun x => outD S1 (bltD L .nset [x])) R Fo (blt1 e) hx fun s S1 F1 H1 v h1 le R1 sv => ?_
    obtain ⟨x, px, h3⟩ := pk1_some h1
    obtain ⟨d, h5, rfl, rfl⟩ := outD_some h3
    cases x <;> first | (cases h5; done) | skip
    exact ⟨F1, _, d, le, R1, peek_ok R1 sv px, h5, rfl⟩
  refine Call_ (ld_blt I hg hm PySem.boot_len ?_)
  refine PyProof.Rows.callWith_builtin1 (PyProof.Rows.args_cons ?_ rfl) rfl rfl
  refine Call_ (ld_blt I hg2 hm2 PyProof.Rows.boot_set ?_)
  refine PyProof.Rows.callWith_type1 (PyProof.Rows.args_cons (thn (ha.run pins s σ H _ I st) fun v s1 ⟨x, H1, I1, r1, q1⟩ => PyProof.Rows.args_nil ?_) na) na rfl
  obtain ⟨F1, xs, d, le, R1, ⟨l, vs1, rfl, p1, rs⟩, h5, rfl⟩ := q1
  cases r1
  unfold nsetD at h5
  cases q2 : tupsI xs with
  | none => rw [q2] at h5; cases h5
  | some ls =>
    rw [q2] at h5
    replace h5 : (if Nat.ble xs.length 60 = true then some (D.int (nubI ls).length) else none) = some d := h5
    split at h5
    · rename_i hb
      have hb := Nat.le_of_ble_eq_true hb
      cases h5
      obtain ⟨k1, k2⟩ := reps_k rs q2
      have hl1 := rs.length
      obtain ⟨its, rv, pl, hz⟩ := I1.list (SqL.of (K := X.K) p1)
      -- the tuples by address
      have hks : ∃ ks : List (Addr × List Int), vs1 = ks.map (fun p => V.ref p.1) ∧ ls = ks.map (·.2) ∧ ∀ p ∈ ks, F1 p.1 = some (.tup (p.2.map V.int)) := by
        rw [← k1]
        clear k1 hl1 rs p1 pl rv hz
        induction vs1 with
        | nil => exact ⟨[], rfl, rfl, fun _ h => nomatch h⟩
        | cons v vs ih =>
          obtain ⟨t, et, ht⟩ := k2 v List.mem_cons_self
          obtain ⟨ks, e1, e2, e3⟩ := ih fun u hu => k2 u (List.mem_cons_of_mem _ hu)
          refine ⟨(t, kOf F1 v) :: ks, by rw [List.map_cons, ← e1, et], by rw [List.map_cons, List.map_cons, e2], fun p hp => ?_⟩
          rcases List.mem_cons.mp hp with e | e
          · rw [e]; exact ht
          · exact e3 p e
      obtain ⟨ks, e1, e2, e3⟩ := hks
      have hkl : ks.length < 64 := by
        have := congrArg List.length e1
        rw [List.length_map] at this
        omega
      rw [e1] at rv
      refine call_set_tups (P := X.prog) (w := X.w) ks (I1.ok.hd hc) pl.isList (by simpa using refs_of_vals rv) (fun p hp => I1.isT (SqT.of (R1.sub _ _ (e3 p hp)))) hkl (by omega) fun h' tk M es ep t RM gm k => ?_
      refine PyProof.Rows.args_nil ?_
      obtain ⟨o, ho, hex, hd⟩ := RM.ob
      have I2 : L2.Inv X pins σ H1 { s1 with heap := h', toks := tk } := I1.kept fun b o e => k b o e
      have hsz : es.size = M.length := by
        have z := congrArg List.length RM.rows
        unfold rowsOf at z
        rw [Array.length_toList, List.length_map] at z
        exact z
      have nM : M.length = (nubI ls).length := by
        have a1 : (M.map (·.2)).length ≤ (nubI ls).length := nodup_le RM.nd fun x hx => by
          obtain ⟨p, hp, rfl⟩ := List.mem_map.mp hx
          rw [nubI_mem, e2]
          exact List.mem_map.mpr ⟨p, List.mem_of_mem_take (gm.sub p hp), rfl⟩
        have a2 : (nubI ls).length ≤ (M.map (·.2)).length := nodup_le (nubI_nodup ls) fun x hx => by
          rw [nubI_mem, e2] at hx
          obtain ⟨p, hp, rfl⟩ := List.mem_map.mp hx
          exact gm.all p (by rw [List.take_length]; exact hp)
        rw [List.length_map] at a1 a2
        omega
      have few := RM.few
      refine call_len_set ho hex hd ?_ (by rw [hsz]; omega) ⟨.int es.size, H1, I2.tok _, ⟨_, rfl⟩, ?_⟩
      · exact L2.SetTR.fits (s := { s1 with heap := h' }) RM
      · have := hq _ rfl F1 H1 (.int (es.size : Nat)) le R1 (by rw [hsz, nM]; exact .int _)
        exact this
    · cases h5
end
end Cm

/-! the laws' draws -/
namespace Cm
open PySem PySem.Spec PyProof.Rows L2
def irCell : T := (.seq (.ite (.tru (.arg 0)) (.ret (.idx (.arg 0) (.bin .mod (.arg 1) (.blt .len (.cons (.arg 0) .nil))))) .nop) (.ret (.lit (.int 0))))
def irMix (f : Nat) : T := (.seq (.asg (.nm 2) (.bin .mod (.bin .add (.call f (.cons (.arg 0) (.cons (.arg 1) .nil))) (.bin .mul (.lit (.int 104729)) (.bin .add (.arg 1) (.lit (.int 1))))) (.lit (.int 4294967291)))) (.seq (.asg (.nm 2) (.bin .mod (.bin .pow (.arg 2) (.lit (.int 5))) (.lit (.int 4294967279)))) (.ret (.bin .mod (.bin .add (.bin .mul (.bin .fdiv (.arg 2) (.lit (.int 64))) (.lit (.int 69621))) (.arg 2)) (.lit (.int 4294967231))))))
def irDraw (f : Nat) : T := (.seq (.apd (.arg 1) (.lit (.int 0))) (.ret (.bin .mod (.bin .fdiv (.call f (.cons (.arg 0) (.cons (.blt .len (.cons (.arg 1) .nil)) .nil))) (.lit (.int 8))) (.arg 2))))
def irPick (f : Nat) : T := (.ret (.idx (.arg 2) (.call f (.cons (.arg 0) (.cons (.arg 1) (.cons (.blt .len (.cons (.arg 2) .nil)) .nil))))))
def cellV (ns : List Int) (k : Int) : Int := if ns.isEmpty then 0 else ns.getD (k.fmod ns.length).toNat 0
def mixA (ns : List Int) (k : Int) : Int := (cellV ns k + 104729 * (k + 1)).fmod 4294967291
def mixB (ns : List Int) (k : Int) : Int := ((mixA ns k) ^ 5).fmod 4294967279
def mixV (ns : List Int) (k : Int) : Int := ((mixB ns k).fdiv 64 * 69621 + mixB ns k).fmod 4294967231
def drawV (ns : List Int) (k many : Int) : Int := ((mixV ns k).fdiv 8).fmod many
section
variable {L : Lw} {Pr : List Fn} {n : Nat}
theorem call_s {f : Nat} {F : Fn} {as : List Sl} {S : Sto} (h : Pr[f]? = some F) (hl : as.length = F.p) : callE L Pr (n + 1) f as S = ends S.length (evT L (callE L Pr n) S.length F.body (fr0 F as) (S ++ List.replicate F.m Cl.dead)) := by
  show (match Pr[f]? with
    | some F => if (as.length == F.p) = true then ends S.length (evT L (callE L Pr n) S.length F.body (fr0 F as) (S ++ List.replicate F.m Cl.dead)) else none
    | none => none) = _
  rw [h]
  exact if_pos (beq_iff_eq.mpr hl)
/-- a def without lists of its own -/
theorem call_0 {f p q : Nat} {bd : T} {as : List Sl} {S : Sto} (h : Pr[f]? = some ⟨p, q, 0, bd⟩) (hl : as.length = p) : callE L Pr (n + 1) f as S = ends S.length (evT L (callE L Pr n) S.length bd (as ++ List.replicate (q - p) .un) S) := by
  rw [call_s h hl]
  simp [fr0]
theorem ends_ret {S : Sto} {fr : Fr} {x : D} {k : Nat} (h : S.length = k) : ends k (some (.ret x, fr, S)) = some (.ok x, S) := by
  subst h
  simp [ends]
theorem ends_nx {S : Sto} {fr : Fr} {k : Nat} (h : S.length = k) : ends k (some (.nx, fr, S)) = some (.ok .non, S) := by
  subst h
  simp [ends]
theorem ends_rz {S : Sto} {fr : Fr} {j k : Nat} (h : S.length = k) : ends k (some (.rz j, fr, S)) = some (.rz j, S) := by
  subst h
  simp [ends]
theorem ev_cell {f : Nat} (h : Pr[f]? = some ⟨2, 2, 0, irCell⟩) {ns : List Int} {k : Int} {S : Sto} : callE L Pr (n + 1) f [.d (.scr ns), .d (.int k)] S = some (.ok (.int (cellV ns k)), S) := by
  rw [call_0 h rfl]
  cases ns with
  | nil =>
    refine Eq.trans (b := ends S.length (some (.ret (.int 0), _, S))) rfl (ends_ret rfl)
  | cons a r =>
    have hp : (0 : Int) < ((a :: r).length : Int) := by simp
    have h0 := Int.fmod_nonneg_of_pos k hp
    have h1 := Int.fmod_lt_of_pos k hp
    have e : atI (a :: r) (k.fmod ((a :: r).length : Int)) = some (cellV (a :: r) k) := by
      generalize hz : k.fmod ((a :: r).length : Int) = z at h0 h1
      have e1 : cellV (a :: r) k = (a :: r).getD z.toNat 0 := by
        unfold cellV
        rw [hz]
        rfl
      rw [e1]
      obtain ⟨m, rfl⟩ := Int.eq_ofNat_of_zero_le h0
      have : m < (a :: r).length := by omega
      show (ixN (a :: r).length (m : Int)).bind (fun j => (a :: r)[j]?) = _
      have e2 : ixN (a :: r).length (m : Int) = some m := by
        unfold ixN
        rw [if_pos (by omega), if_pos (by omega)]
        rfl
      rw [e2]
      show (a :: r)[m]? = _
      show _ = some ((a :: r).getD m 0)
      rw [List.getElem?_eq_getElem this, List.getD_eq_getElem?_getD, List.getElem?_eq_getElem this]
      rfl
    have z : ((((a :: r).length : Nat) : Int) == 0) = false := by
      rw [beq_eq_false_iff_ne]; omega
    simp only [irCell, evT, evE, bnd, bndS, bndE, bndL, pk1, pk2, peek, peekL, truD, outB, outD, binD, modD, addD, mulD, fdivD, powD, subD, bltD, itemD, bindT, List.getElem?_cons_zero, List.getElem?_cons_succ, List.set, List.isEmpty, List.cons_append, List.nil_append, Option.map, Bool.not_false, Bool.false_eq_true, if_true, if_false, reduceIte, z, e]
    exact ends_ret rfl
theorem mixA_lt {ns : List Int} {k : Int} : 0 ≤ mixA ns k ∧ mixA ns k < 4294967291 := ⟨Int.fmod_nonneg_of_pos _ (by decide), Int.fmod_lt_of_pos _ (by decide)⟩
theorem mixB_lt {ns : List Int} {k : Int} : 0 ≤ mixB ns k ∧ mixB ns k < 4294967279 := ⟨Int.fmod_nonneg_of_pos _ (by decide), Int.fmod_lt_of_pos _ (by decide)⟩
theorem mixV_lt {ns : List Int} {k : Int} : 0 ≤ mixV ns k ∧ mixV ns k < 4294967231 := ⟨Int.fmod_nonneg_of_pos _ (by decide), Int.fmod_lt_of_pos _ (by decide)⟩
theorem drawV_lt {ns : List Int} {k many : Int} (h : 0 < many) : 0 ≤ drawV ns k many ∧ drawV ns k many < many := ⟨Int.fmod_nonneg_of_pos _ h, Int.fmod_lt_of_pos _ h⟩
theorem sm_of {i : Int} (h : i.natAbs < 18446744073709551616) : smB i = true := by
  unfold smB
  refine Nat.blt_eq.mpr (Nat.lt_of_lt_of_le h ?_)
  unfold LIM
  exact Nat.le_trans (show 18446744073709551616 ≤ 2 ^ 64 by decide) (Nat.pow_le_pow_right (by decide) (by decide))
theorem ev_mix {f f1 : Nat} (h : Pr[f]? = some ⟨2, 2, 0, irCell⟩) (h1 : Pr[f1]? = some ⟨2, 3, 0, irMix f⟩) {ns : List Int} {k : Int} (hk : k.natAbs < 1000000) {S : Sto} : callE L Pr (n + 2) f1 [.d (.scr ns), .d (.int k)] S = some (.ok (.int (mixV ns k)), S) := by
  rw [call_0 h1 rfl]
  have a1 := @mixA_lt ns k
  have a2 := @mixB_lt ns k
  have s1 : smB 104729 = true := sm_of (by decide)
  have s2 : smB (k + 1) = true := sm_of (by omega)
  have s3 : smB 64 = true := sm_of (by decide)
  have s4 : smB ((mixB ns k).fdiv 64) = true := sm_of (by rw [Int.fdiv_eq_ediv_of_nonneg _ (by decide)]; omega)
  have s5 : smB 69621 = true := sm_of (by decide)
  have p1 : Nat.blt (mixA ns k).natAbs 18446744073709551616 = true := Nat.blt_eq.mpr (by omega)
  have p2 : (mixA ns k) ^ Int.toNat 5 = (mixA ns k) ^ 5 := rfl
  have p3 : (decide ((0 : Int) ≤ 5) && decide ((5 : Int) ≤ 1000)) = true := by decide
  have q1 : ((4294967291 : Int) == 0) = false := by decide
  have q2 : ((4294967279 : Int) == 0) = false := by decide
  have q3 : ((64 : Int) == 0) = false := by decide
  have q4 : ((4294967231 : Int) == 0) = false := by decide
  have m1 : (cellV ns k + 104729 * (k + 1)).fmod 4294967291 = mixA ns k := rfl
  have m2 : ((mixA ns k) ^ 5).fmod 4294967279 = mixB ns k := rfl
  have m3 : ((mixB ns k).fdiv 64 * 69621 + mixB ns k).fmod 4294967231 = mixV ns k := rfl
  simp only [irMix, evT, evE, bnd, bndS, bndE, bndL, pk1, pk2, peek, peekL, truD, outB, outD, binD, modD, addD, mulD, fdivD, powD, subD, bltD, itemD, bindT, List.getElem?_cons_zero, List.getElem?_cons_succ, List.set, List.isEmpty, List.cons_append, List.nil_append, Option.map, Bool.not_false, Bool.false_eq_true, if_true, if_false, reduceIte, ev_cell h, List.replicate, Nat.reduceSub, s1, s2, s3, s4, s5, p1, p2, p3, q1, q2, q3, q4, m1, m2, m3, Bool.and_true, Bool.not_false, Bool.and_self]
  exact ends_ret rfl
theorem ev_draw {f f1 f2 : Nat} (h : Pr[f]? = some ⟨2, 2, 0, irCell⟩) (h1 : Pr[f1]? = some ⟨2, 3, 0, irMix f⟩) (h2 : Pr[f2]? = some ⟨3, 3, 0, irDraw f1⟩) {ns : List Int} {many : Int} (hm : 0 < many) {S : Sto} {j : Nat} {xs : List D} (hj : S[j]? = some (.live (.lst xs))) (hx : xs.length < 900000) :
    callE L Pr (n + 3) f2 [.d (.scr ns), .ref j, .d (.int many)] S = some (.ok (.int (drawV ns (xs.length + 1) many)), S.set j (.live (.lst (xs ++ [.int 0])))) := by
  rw [call_0 h2 rfl]
  have hl : Nat.ble xs.length 1000000 = true := Nat.ble_eq.mpr (by omega)
  have hj2 : (S.set j (.live (.lst (xs ++ [.int 0]))))[j]? = some (.live (.lst (xs ++ [.int 0]))) := by
    rw [List.getElem?_set_self (List.getElem?_eq_some_iff.mp hj).1]
  have z : (many == 0) = false := by rw [beq_eq_false_iff_ne]; omega
  have s3 : smB 8 = true := sm_of (by decide)
  have q3 : ((8 : Int) == 0) = false := by decide
  have e1 : (((xs ++ [D.int 0]).length : Nat) : Int) = xs.length + 1 := by simp
  have m1 : ((mixV ns (xs.length + 1)).fdiv 8).fmod many = drawV ns (xs.length + 1) many := rfl
  have hk : ((xs.length : Int) + 1).natAbs < 1000000 := by omega
  simp only [irDraw, evT, evE, bnd, bndS, bndE, bndL, pk1, pk2, peek, peekL, truD, outB, outD, binD, modD, addD, mulD, fdivD, powD, subD, bltD, itemD, bindT, List.getElem?_cons_zero, List.getElem?_cons_succ, List.set, List.isEmpty, List.cons_append, List.nil_append, Option.map, Bool.not_false, Bool.false_eq_true, if_true, if_false, reduceIte, List.replicate, Nat.reduceSub, hj, hl, hj2, e1, ev_mix h h1 hk, z, s3, q3, m1, Bool.and_true, Bool.not_false, Bool.and_self]
  exact ends_ret (by simp)
theorem ev_pick {f f1 f2 f3 : Nat} (h : Pr[f]? = some ⟨2, 2, 0, irCell⟩) (h1 : Pr[f1]? = some ⟨2, 3, 0, irMix f⟩) (h2 : Pr[f2]? = some ⟨3, 3, 0, irDraw f1⟩) (h3 : Pr[f3]? = some ⟨3, 3, 0, irPick f2⟩) {ns : List Int} {S : Sto} {j : Nat} {xs ys : List D} (hy : 0 < ys.length)
    (hj : S[j]? = some (.live (.lst xs))) (hx : xs.length < 900000) : ∃ y ∈ ys, callE L Pr (n + 4) f3 [.d (.scr ns), .ref j, .d (.lst ys)] S = some (.ok y, S.set j (.live (.lst (xs ++ [.int 0])))) := by
  have hd := @drawV_lt ns (xs.length + 1) ys.length (by omega)
  have ev := ev_draw (n := n) (L := L) h h1 h2 (ns := ns) (many := ys.length) (by omega) hj hx
  generalize drawV ns (xs.length + 1) ys.length = z at hd ev
  obtain ⟨m, rfl⟩ := Int.eq_ofNat_of_zero_le hd.1
  have hm : m < ys.length := by omega
  have e2 : ixN ys.length (m : Int) = some m := by
    unfold ixN
    rw [if_pos (by omega), if_pos (by omega)]
    rfl
  have e : atI ys (m : Int) = some ys[m] := by
    unfold atI
    rw [e2]
    exact List.getElem?_eq_getElem hm
  refine ⟨ys[m], List.getElem_mem hm, ?_⟩
  rw [call_0 h3 rfl]
  simp only [irPick, evT, evE, bnd, bndS, bndE, bndL, pk1, pk2, peek, peekL, truD, outB, outD, binD, modD, addD, mulD, fdivD, powD, subD, bltD, itemD, bindT, List.getElem?_cons_zero, List.getElem?_cons_succ, List.set, List.isEmpty, List.cons_append, List.nil_append, Option.map, Bool.not_false, Bool.false_eq_true, if_true, if_false, reduceIte, List.replicate, Nat.reduceSub, ev, e]
  exact ends_ret (by simp)
end
end Cm

/-! steps of the evaluator -/
namespace Cm
open PySem PySem.Spec PyProof.Rows L2
section
variable {L : Lw} {c : Ce} {b : Nat} {fr fr1 : Fr} {S S1 S2 : Sto}
theorem seq_nx {s r : T} (h : evT L c b s fr S = some (.nx, fr1, S1)) : evT L c b (.seq s r) fr S = evT L c b r fr1 S1 := by
  show bndS (evT L c b s fr S) _ = _
  rw [h]
  rfl
theorem seq_ret {s r : T} {x : D} (h : evT L c b s fr S = some (.ret x, fr1, S1)) : evT L c b (.seq s r) fr S = some (.ret x, fr1, S1) := by
  show bndS (evT L c b s fr S) _ = _
  rw [h]
  rfl
theorem seq_rz {s r : T} {k : Nat} (h : evT L c b s fr S = some (.rz k, fr1, S1)) : evT L c b (.seq s r) fr S = some (.rz k, fr1, S1) := by
  show bndS (evT L c b s fr S) _ = _
  rw [h]
  rfl
theorem asg_call {g : Tg} {f : Nat} {as : E} {l : List Sl} {x : D} (ha : evE L c as fr S = some (.vs l, S1)) (hc : c f l S1 = some (.ok x, S2)) (hb : bindT g x fr = some fr1) : evT L c b (.asg g (.call f as)) fr S = some (.nx, fr1, S2) := by
  simp only [evT, evE, ha, bndL, hc, bndE, hb]
end
end Cm

/-! the program's first functions, told in plain words -/
namespace Cm
open PySem PySem.Spec PyProof.Rows L2
def Bd (k : Nat) (i : Int) : Prop := i.natAbs < 2 ^ k
theorem Bd.mono {k l : Nat} {i : Int} (h : Bd k i) (q : k ≤ l) : Bd l i := Nat.lt_of_lt_of_le h (Nat.pow_le_pow_right (by decide) q)
theorem Bd.sm {k : Nat} {i : Int} (h : Bd k i) (q : k ≤ 8000) : smB i = true := Nat.blt_eq.mpr (h.mono q)
theorem Bd.mul {k l : Nat} {i j : Int} (h : Bd k i) (h2 : Bd l j) : Bd (k + l) (i * j) := by
  unfold Bd
  rw [Int.natAbs_mul, Nat.pow_add]
  exact Nat.mul_lt_mul_of_lt_of_lt h h2
theorem Bd.add {k l : Nat} {i j : Int} (h : Bd k i) (h2 : Bd l j) : Bd (k + l + 1) (i + j) := by
  have a : Bd (k + l) i := h.mono (by omega)
  have c : Bd (k + l) j := h2.mono (by omega)
  unfold Bd at *
  rw [Nat.pow_succ]
  omega
theorem Bd.sub {k l : Nat} {i j : Int} (h : Bd k i) (h2 : Bd l j) : Bd (k + l + 1) (i - j) := by
  have a : Bd (k + l) i := h.mono (by omega)
  have c : Bd (k + l) j := h2.mono (by omega)
  unfold Bd at *
  rw [Nat.pow_succ]
  omega
theorem Bd.neg {k : Nat} {i : Int} (h : Bd k i) : Bd k (0 - i) := by
  unfold Bd at *
  omega
theorem Bd.gcd {k : Nat} {i j : Int} (h : Bd k i) (h2 : Bd k j) : Bd k (Int.gcd i j : Nat) := by
  unfold Bd at *
  rw [Int.natAbs_natCast]
  by_cases e : i.natAbs = 0
  · rw [show Int.gcd i j = Nat.gcd i.natAbs j.natAbs from rfl, e, Nat.gcd_zero_left]
    exact h2
  · exact Nat.lt_of_le_of_lt (Nat.le_of_dvd (by omega) (Nat.gcd_dvd_left _ _)) h
theorem Bd.two : Bd 2 2 := by unfold Bd; decide
theorem Bd.one : Bd 1 1 := by unfold Bd; decide
theorem Bd.zero : Bd 0 0 := by unfold Bd; decide
def irDivisor : T := (.seq (.whl (.tru (.arg 1)) (.par 0 1 (.var 1) (.bin .mod (.arg 0) (.arg 1)))) (.ret (.blt .abs (.cons (.arg 0) .nil))))
def irProduct : T := (.ret (.bin .sub (.bin .sub (.bin .add (.bin .mul (.idx (.arg 0) (.lit (.int 1))) (.idx (.arg 1) (.lit (.int 1)))) (.bin .mul (.idx (.arg 0) (.lit (.int 2))) (.idx (.arg 1) (.lit (.int 2))))) (.bin .mul (.bin .mul (.lit (.int 2)) (.idx (.arg 0) (.lit (.int 0)))) (.idx (.arg 1) (.lit (.int 3))))) (.bin .mul (.bin .mul (.lit (.int 2)) (.idx (.arg 0) (.lit (.int 3)))) (.idx (.arg 1) (.lit (.int 0))))))
def irTidy (f : Nat) : T := (.seq (.asg (.nm 1) (.lit (.int 0))) (.seq (.for (.nm 2) (.var 0) (.asg (.nm 1) (.call f (.cons (.arg 2) (.cons (.arg 1) .nil))))) (.seq (.asg (.nm 3) (.idx (.comp [2] (.nm 2) (.var 0) (.cmp .ne (.arg 2) (.lit (.int 0))) (.var 2)) (.lit (.int 0)))) (.seq (.asg (.nm 1) (.ifx (.cmp .gt (.arg 3) (.lit (.int 0))) (.var 1) (.bin .sub (.lit (.int 0)) (.arg 1)))) (.ret (.blt .tuple (.cons (.comp [2] (.nm 2) (.var 0) (.lit (.bl true)) (.bin .fdiv (.arg 2) (.arg 1))) .nil)))))))
def irLC (f f1 : Nat) : T := (.seq (.ite (.or (.cmp .ne (.blt .len (.cons (.arg 0) .nil)) (.lit (.int 4))) (.not (.tru (.blt .all (.cons (.comp [1] (.nm 1) (.var 0) (.lit (.bl true)) (.chn .le .le (.bin .sub (.lit (.int 0)) (.lit (.int 1000000000))) (.arg 1) (.lit (.int 1000000000)))) .nil))))) (.rse 1) .nop) (.ite (.or (.cmp .le (.call f (.cons (.arg 0) (.cons (.arg 0) .nil))) (.lit (.int 0))) (.cmp .ne (.call f1 (.cons (.arg 0) .nil)) (.arg 0))) (.rse 1) .nop))
section
variable {L : Lw} {Pr : List Fn} {n : Nat} {S : Sto}
theorem gcd_step {a b : Int} : Int.gcd b (a.fmod b) = Int.gcd a b := by
  have e := Int.mul_fdiv_add_fmod a b
  rw [Int.gcd_comm a b]
  conv => rhs; rw [← e]
  simp
theorem fmod_abs {a b : Int} (h : b ≠ 0) : (a.fmod b).natAbs < b.natAbs := by
  have h0 := Int.emod_nonneg a h
  have h1 := Int.emod_lt a h
  rw [Int.fmod_eq_emod]
  split
  · omega
  · rename_i q
    have : a % b ≠ 0 := fun z => q (.inr (Int.dvd_of_emod_eq_zero z))
    omega
theorem dv_loop {c : Ce} {w : Nat} : ∀ (m : Nat) (a b : Int), b.natAbs < m → ∃ z : Int, z.natAbs = Int.gcd a b ∧ whlL (evE L c (.tru (.arg 1))) (evT L c w (.par 0 1 (.var 1) (.bin .mod (.arg 0) (.arg 1)))) m [.d (.int a), .d (.int b)] S = some (.nx, [.d (.int z), .d (.int 0)], S)
  | 0, a, b, h => absurd h (Nat.not_lt_zero _)
  | m + 1, a, b, h => by
    by_cases hb : b = 0
    · subst hb
      refine ⟨a, by simp, ?_⟩
      simp only [whlL, evT, evE, bnd, bndS, bndE, bndL, pk1, pk2, peek, peekL, datL, parK, forL, compL, seqD, wipeS, tst, truD, outB, outD, binD, cmpD, deq, deqL, pln, plnL, modD, addD, mulD, fdivD, powD, subD, bltD, bolsD, itemD, bindT, Option.bind, List.length_cons, List.length_nil, List.getElem?_cons_zero, List.getElem?_cons_succ, List.set, List.isEmpty, List.cons_append, List.nil_append, List.replicate, Nat.reduceSub, Option.map, Bool.not_false, Bool.not_true, Bool.false_eq_true, if_true, if_false, reduceIte, Bool.and_true, Bool.true_and, Bool.and_self, bne_self_eq_false]
    · obtain ⟨z, z1, z2⟩ := dv_loop (c := c) (w := w) m b (a.fmod b) (by have := @fmod_abs a b hb; omega)
      refine ⟨z, z1.trans gcd_step, ?_⟩
      have hb1 : (b != 0) = true := bne_iff_ne.mpr hb
      have hb2 : (b == 0) = false := beq_eq_false_iff_ne.mpr hb
      simp only [whlL, evT, evE, bnd, bndS, bndE, bndL, pk1, pk2, peek, peekL, datL, parK, forL, compL, seqD, wipeS, tst, truD, outB, outD, binD, cmpD, deq, deqL, pln, plnL, modD, addD, mulD, fdivD, powD, subD, bltD, bolsD, itemD, bindT, Option.bind, List.length_cons, List.length_nil, List.getElem?_cons_zero, List.getElem?_cons_succ, List.set, List.isEmpty, List.cons_append, List.nil_append, List.replicate, Nat.reduceSub, Option.map, Bool.not_false, Bool.not_true, Bool.false_eq_true, if_true, if_false, reduceIte, Bool.and_true, Bool.true_and, Bool.and_self, hb1, hb2]
      exact z2
theorem ev_divisor {f : Nat} (h : Pr[f]? = some ⟨2, 2, 0, irDivisor⟩) {a b : Int} (hb : Bd 8000 b) : callE L Pr (n + 1) f [.d (.int a), .d (.int b)] S = some (.ok (.int (Int.gcd a b : Nat)), S) := by
  rw [call_0 h rfl]
  obtain ⟨z, z1, z2⟩ := dv_loop (L := L) (S := S) (c := callE L Pr n) (w := List.length S) LF a b (hb.mono (by decide))
  have e : (if z < 0 then -z else z) = ((Int.gcd a b : Nat) : Int) := by split <;> omega
  unfold irDivisor
  rw [List.replicate, List.append_nil, seq_nx (show evT L (callE L Pr n) (List.length S) (.whl (.tru (.arg 1)) (.par 0 1 (.var 1) (.bin .mod (.arg 0) (.arg 1)))) [.d (.int a), .d (.int b)] S = _ from z2)]
  simp only [evT, evE, bnd, bndS, bndE, bndL, pk1, pk2, peek, peekL, datL, parK, forL, compL, seqD, wipeS, tst, truD, outB, outD, binD, cmpD, deq, deqL, pln, plnL, modD, addD, mulD, fdivD, powD, subD, bltD, bolsD, itemD, bindT, Option.bind, List.length_cons, List.length_nil, List.getElem?_cons_zero, List.getElem?_cons_succ, List.set, List.isEmpty, List.cons_append, List.nil_append, List.replicate, Nat.reduceSub, Option.map, Bool.not_false, Bool.not_true, Bool.false_eq_true, if_true, if_false, reduceIte, Bool.and_true, Bool.true_and, Bool.and_self, e]
  exact ends_ret rfl
/-- a circle's four numbers, as a tuple or as a list -/
structure Is4 (x : D) (a b c d : Int) : Prop where
  sq : seqD x = some [.int a, .int b, .int c, .int d]
  i0 : itemD x 0 = some (.int a)
  i1 : itemD x 1 = some (.int b)
  i2 : itemD x 2 = some (.int c)
  i3 : itemD x 3 = some (.int d)
theorem is4T {a b c d : Int} : Is4 (.tup [.int a, .int b, .int c, .int d]) a b c d := ⟨rfl, rfl, rfl, rfl, rfl⟩
theorem is4L {a b c d : Int} : Is4 (.lst [.int a, .int b, .int c, .int d]) a b c d := ⟨rfl, rfl, rfl, rfl, rfl⟩
def prV (a b c d a' b' c' d' : Int) : Int := b * b' + c * c' - 2 * a * d' - 2 * d * a'
structure Bd4 (k : Nat) (a b c d : Int) : Prop where
  a : Bd k a
  b : Bd k b
  c : Bd k c
  d : Bd k d
theorem ev_product {f : Nat} (h : Pr[f]? = some ⟨2, 2, 0, irProduct⟩) {x y : D} {a b c d a' b' c' d' : Int} (hx : Is4 x a b c d) (hy : Is4 y a' b' c' d') (bx : Bd4 1000 a b c d) (by' : Bd4 1000 a' b' c' d') : callE L Pr (n + 1) f [.d x, .d y] S = some (.ok (.int (prV a b c d a' b' c' d')), S) := by
  rw [call_0 h rfl]
  have s2 := Bd.two.sm (by decide)
  have sa := bx.a.sm (by decide)
  have sb := bx.b.sm (by decide)
  have sc := bx.c.sm (by decide)
  have sd := bx.d.sm (by decide)
  have ta := by'.a.sm (by decide)
  have tb := by'.b.sm (by decide)
  have tc := by'.c.sm (by decide)
  have td := by'.d.sm (by decide)
  have u1 := (Bd.two.mul bx.a).sm (by decide)
  have u2 := (Bd.two.mul bx.d).sm (by decide)
  have e : b * b' + c * c' - 2 * a * d' - 2 * d * a' = prV a b c d a' b' c' d' := rfl
  simp only [irProduct, evT, evE, bnd, bndS, bndE, bndL, pk1, pk2, peek, peekL, datL, parK, forL, compL, wipeS, tst, truD, outB, outD, binD, cmpD, deq, deqL, pln, plnL, modD, addD, mulD, fdivD, powD, subD, bltD, bolsD, bindT, Option.bind, List.length_cons, List.length_nil, List.getElem?_cons_zero, List.getElem?_cons_succ, List.set, List.isEmpty, List.cons_append, List.nil_append, List.replicate, Nat.reduceSub, Option.map, Bool.not_false, Bool.not_true, Bool.false_eq_true, if_true, if_false, reduceIte, Bool.and_true, Bool.true_and, Bool.and_self, List.append_nil, hx.i0, hx.i1, hx.i2, hx.i3, hy.i0, hy.i1, hy.i2, hy.i3, s2, sa, sb, sc, sd, ta, tb, tc, td, u1, u2, e]
  exact ends_ret rfl
def gcd4 (a b c d : Int) : Nat := Int.gcd d (Int.gcd c (Int.gcd b (Int.gcd a 0 : Nat) : Nat) : Nat)
def fst4 (a b c d : Int) : Int := if a ≠ 0 then a else if b ≠ 0 then b else if c ≠ 0 then c else d
def by4 (a b c d : Int) : Int := if 0 < fst4 a b c d then (gcd4 a b c d : Int) else 0 - (gcd4 a b c d : Int)
def tidV (a b c d : Int) : D := .tup [.int (a.fdiv (by4 a b c d)), .int (b.fdiv (by4 a b c d)), .int (c.fdiv (by4 a b c d)), .int (d.fdiv (by4 a b c d))]
theorem gcd4_ne {a b c d : Int} (h : fst4 a b c d ≠ 0) : gcd4 a b c d ≠ 0 := by
  intro z
  unfold gcd4 at z
  simp only [Int.gcd_eq_zero_iff, Int.natCast_eq_zero] at z
  obtain ⟨rfl, rfl, rfl, rfl, -⟩ := z
  exact h rfl
theorem ev_tidy {f f1 : Nat} (h : Pr[f]? = some ⟨2, 2, 0, irDivisor⟩) (h1 : Pr[f1]? = some ⟨1, 4, 0, irTidy f⟩) {x : D} {a b c d : Int} (hx : Is4 x a b c d) (bx : Bd4 5000 a b c d) (h0 : fst4 a b c d ≠ 0) : callE L Pr (n + 2) f1 [.d x] S = some (.ok (tidV a b c d), S) := by
  rw [call_0 h1 rfl]
  have b1 : Bd 5000 (Int.gcd a 0 : Nat) := bx.a.gcd (Bd.zero.mono (by decide))
  have b2 := bx.b.gcd b1
  have b3 := bx.c.gcd b2
  have b4 := bx.d.gcd b3
  have e1 := ev_divisor (L := L) (n := n) (S := S) h (a := a) (b := 0) (Bd.zero.mono (by decide))
  have e2 := ev_divisor (L := L) (n := n) (S := S) h (a := b) (b1.mono (by decide))
  have e3 := ev_divisor (L := L) (n := n) (S := S) h (a := c) (b2.mono (by decide))
  have e4 := ev_divisor (L := L) (n := n) (S := S) h (a := d) (b3.mono (by decide))
  have g0 := gcd4_ne h0
  have e5 : ((Int.gcd d (Int.gcd c (Int.gcd b (Int.gcd a 0 : Nat) : Nat) : Nat) : Nat) : Int) = ((gcd4 a b c d : Nat) : Int) := rfl
  rw [e5] at b4
  have w0 : (by4 a b c d == 0) = false := beq_eq_false_iff_ne.mpr (by unfold by4; split <;> omega)
  have w1 : smB (by4 a b c d) = true := by
    unfold by4
    split
    · exact b4.sm (by decide)
    · exact b4.neg.sm (by decide)
  have t1 : evT L (callE L Pr (n + 1)) (List.length S) (.asg (.nm 3) (.idx (.comp [2] (.nm 2) (.var 0) (.cmp .ne (.arg 2) (.lit (.int 0))) (.var 2)) (.lit (.int 0)))) [.d x, .d (.int (gcd4 a b c d : Nat)), .d (.int d), .un] S = some (.nx, [.d x, .d (.int (gcd4 a b c d : Nat)), .d (.int d), .d (.int (fst4 a b c d))], S) := by
    generalize gcd4 a b c d = gg
    have ix : ∀ (z : D) (l : List D), itemD (.lst (z :: l)) 0 = some z := fun z l => by
      show (ixN (z :: l).length 0).bind (fun j => (z :: l)[j]?) = some z
      have e : ixN (z :: l).length 0 = some 0 := by
        unfold ixN
        rw [if_pos (by omega), if_pos (by rw [List.length_cons]; omega)]
        rfl
      rw [e]
      rfl
    have nb : ∀ {i : Int}, i ≠ 0 → (i == 0) = false := fun h => beq_eq_false_iff_ne.mpr h
    have sq := hx.sq
    unfold fst4 at h0 ⊢
    by_cases ha : a = 0
    · subst ha
      by_cases hb : b = 0
      · subst hb
        by_cases hc : c = 0
        · subst hc
          have hd : d ≠ 0 := by simpa using h0
          simp [evT, evE, bnd, bndS, bndE, bndL, pk1, pk2, peek, peekL, datL, parK, forL, compL, wipeS, tst, truD, outB, outD, binD, cmpD, deq, deqL, pln, plnL, modD, addD, mulD, fdivD, powD, subD, bltD, bolsD, bindT, Option.bind, List.length_cons, List.length_nil, List.getElem?_cons_zero, List.getElem?_cons_succ, List.set, List.isEmpty, List.cons_append, List.nil_append, List.replicate, Nat.reduceSub, Option.map, Bool.not_false, Bool.not_true, Bool.false_eq_true, if_true, if_false, reduceIte, Bool.and_true, Bool.true_and, Bool.and_self, sq, nb hd, ix]
        · by_cases hd : d = 0
          · subst hd
            simp [evT, evE, bnd, bndS, bndE, bndL, pk1, pk2, peek, peekL, datL, parK, forL, compL, wipeS, tst, truD, outB, outD, binD, cmpD, deq, deqL, pln, plnL, modD, addD, mulD, fdivD, powD, subD, bltD, bolsD, bindT, Option.bind, List.length_cons, List.length_nil, List.getElem?_cons_zero, List.getElem?_cons_succ, List.set, List.isEmpty, List.cons_append, List.nil_append, List.replicate, Nat.reduceSub, Option.map, Bool.not_false, Bool.not_true, Bool.false_eq_true, if_true, if_false, reduceIte, Bool.and_true, Bool.true_and, Bool.and_self, sq, nb hc, ix, hc]
          · simp [evT, evE, bnd, bndS, bndE, bndL, pk1, pk2, peek, peekL, datL, parK, forL, compL, wipeS, tst, truD, outB, outD, binD, cmpD, deq, deqL, pln, plnL, modD, addD, mulD, fdivD, powD, subD, bltD, bolsD, bindT, Option.bind, List.length_cons, List.length_nil, List.getElem?_cons_zero, List.getElem?_cons_succ, List.set, List.isEmpty, List.cons_append, List.nil_append, List.replicate, Nat.reduceSub, Option.map, Bool.not_false, Bool.not_true, Bool.false_eq_true, if_true, if_false, reduceIte, Bool.and_true, Bool.true_and, Bool.and_self, sq, nb hc, nb hd, ix, hc]
      · by_cases hc : c = 0 <;> by_cases hd : d = 0 <;> simp [evT, evE, bnd, bndS, bndE, bndL, pk1, pk2, peek, peekL, datL, parK, forL, compL, wipeS, tst, truD, outB, outD, binD, cmpD, deq, deqL, pln, plnL, modD, addD, mulD, fdivD, powD, subD, bltD, bolsD, bindT, Option.bind, List.length_cons, List.length_nil, List.getElem?_cons_zero, List.getElem?_cons_succ, List.set, List.isEmpty, List.cons_append, List.nil_append, List.replicate, Nat.reduceSub, Option.map, Bool.not_false, Bool.not_true, Bool.false_eq_true, if_true, if_false, reduceIte, Bool.and_true, Bool.true_and, Bool.and_self, sq, nb hb, hc, hd, nb, ix, hb]
    · by_cases hb : b = 0 <;> by_cases hc : c = 0 <;> by_cases hd : d = 0 <;> simp [evT, evE, bnd, bndS, bndE, bndL, pk1, pk2, peek, peekL, datL, parK, forL, compL, wipeS, tst, truD, outB, outD, binD, cmpD, deq, deqL, pln, plnL, modD, addD, mulD, fdivD, powD, subD, bltD, bolsD, bindT, Option.bind, List.length_cons, List.length_nil, List.getElem?_cons_zero, List.getElem?_cons_succ, List.set, List.isEmpty, List.cons_append, List.nil_append, List.replicate, Nat.reduceSub, Option.map, Bool.not_false, Bool.not_true, Bool.false_eq_true, if_true, if_false, reduceIte, Bool.and_true, Bool.true_and, Bool.and_self, sq, nb ha, hb, hc, hd, nb, ix, ha]
  have t2 : (if 0 < fst4 a b c d then (gcd4 a b c d : Int) else 0 - (gcd4 a b c d : Int)) = by4 a b c d := rfl
  unfold irTidy
  rw [seq_nx (fr1 := [.d x, .d (.int 0), .un, .un]) (S1 := S) rfl]
  rw [seq_nx (fr1 := [.d x, .d (.int (gcd4 a b c d : Nat)), .d (.int d), .un]) (S1 := S) (by simp only [evT, evE, bnd, bndS, bndE, bndL, pk1, pk2, peek, peekL, datL, parK, forL, compL, wipeS, tst, truD, outB, outD, binD, cmpD, deq, deqL, pln, plnL, modD, addD, mulD, fdivD, powD, subD, bltD, bolsD, bindT, Option.bind, List.length_cons, List.length_nil, List.getElem?_cons_zero, List.getElem?_cons_succ, List.set, List.isEmpty, List.cons_append, List.nil_append, List.replicate, Nat.reduceSub, Option.map, Bool.not_false, Bool.not_true, Bool.false_eq_true, if_true, if_false, reduceIte, Bool.and_true, Bool.true_and, Bool.and_self, hx.sq, e1, e2, e3, e4, e5]), seq_nx t1]
  rw [seq_nx (fr1 := [.d x, .d (.int (by4 a b c d)), .d (.int d), .d (.int (fst4 a b c d))]) (S1 := S) (by
    rw [← t2]
    by_cases q : 0 < fst4 a b c d
    · simp only [evT, evE, bnd, bndS, bndE, bndL, pk1, pk2, peek, peekL, datL, parK, forL, compL, wipeS, tst, truD, outB, outD, binD, cmpD, deq, deqL, pln, plnL, modD, addD, mulD, fdivD, powD, subD, bltD, bolsD, bindT, Option.bind, List.length_cons, List.length_nil, List.getElem?_cons_zero, List.getElem?_cons_succ, List.set, List.isEmpty, List.cons_append, List.nil_append, List.replicate, Nat.reduceSub, Option.map, Bool.not_false, Bool.not_true, Bool.false_eq_true, if_true, if_false, reduceIte, Bool.and_true, Bool.true_and, Bool.and_self, q, decide_true]
    · simp only [evT, evE, bnd, bndS, bndE, bndL, pk1, pk2, peek, peekL, datL, parK, forL, compL, wipeS, tst, truD, outB, outD, binD, cmpD, deq, deqL, pln, plnL, modD, addD, mulD, fdivD, powD, subD, bltD, bolsD, bindT, Option.bind, List.length_cons, List.length_nil, List.getElem?_cons_zero, List.getElem?_cons_succ, List.set, List.isEmpty, List.cons_append, List.nil_append, List.replicate, Nat.reduceSub, Option.map, Bool.not_false, Bool.not_true, Bool.false_eq_true, if_true, if_false, reduceIte, Bool.and_true, Bool.true_and, Bool.and_self, q, decide_false])]
  simp only [evT, evE, bnd, bndS, bndE, bndL, pk1, pk2, peek, peekL, datL, parK, forL, compL, wipeS, tst, truD, outB, outD, binD, cmpD, deq, deqL, pln, plnL, modD, addD, mulD, fdivD, powD, subD, bltD, bolsD, bindT, Option.bind, List.length_cons, List.length_nil, List.getElem?_cons_zero, List.getElem?_cons_succ, List.set, List.isEmpty, List.cons_append, List.nil_append, List.replicate, Nat.reduceSub, Option.map, Bool.not_false, Bool.not_true, Bool.false_eq_true, if_true, if_false, reduceIte, Bool.and_true, Bool.true_and, Bool.and_self, hx.sq, w0, w1, Nat.ble]
  exact ends_ret rfl
end
end Cm

/-! look_circle, told in plain words; the laws' own circles -/
namespace Cm
open PySem PySem.Spec PyProof.Rows L2
section
variable {L : Lw} {Pr : List Fn} {n : Nat} {S : Sto}
structure Bs (Pr : List Fn) (dv td pr lc : Nat) : Prop where
  hdv : Pr[dv]? = some ⟨2, 2, 0, irDivisor⟩
  htd : Pr[td]? = some ⟨1, 4, 0, irTidy dv⟩
  hpr : Pr[pr]? = some ⟨2, 2, 0, irProduct⟩
  hlc : Pr[lc]? = some ⟨1, 2, 0, irLC pr td⟩
def inB (a : Int) : Bool := decide (0 - 1000000000 ≤ a) && decide (a ≤ 1000000000)
theorem inB_bd {a : Int} (h : inB a = true) : Bd 1000 a := by
  unfold inB at h
  rw [Bool.and_eq_true, decide_eq_true_eq, decide_eq_true_eq] at h
  have z : a.natAbs < 2 ^ 32 := by omega
  exact Bd.mono (k := 32) z (by decide)
theorem inB_of {a : Int} (h1 : -1000000000 ≤ a) (h2 : a ≤ 1000000000) : inB a = true := by
  unfold inB
  rw [Bool.and_eq_true, decide_eq_true_eq, decide_eq_true_eq]
  omega
def chI : E := (.chn .le .le (.bin .sub (.lit (.int 0)) (.lit (.int 1000000000))) (.arg 1) (.lit (.int 1000000000)))
theorem chn_in {c : Ce} {x : D} {a : Int} : evE L c chI [.d x, .d (.int a)] S = some (.v (.d (.bl (inB a))), S) := by
  unfold inB chI
  by_cases q : 0 - 1000000000 ≤ a
  · simp only [evT, evE, bnd, bndS, bndE, bndL, pk1, pk2, peek, peekL, datL, parK, forL, compL, seqD, wipeS, tst, truD, outB, outD, binD, cmpD, deq, deqL, pln, plnL, modD, addD, mulD, fdivD, powD, subD, bltD, bolsD, itemD, bindT, Option.bind, List.length_cons, List.length_nil, List.getElem?_cons_zero, List.getElem?_cons_succ, List.set, List.isEmpty, List.cons_append, List.nil_append, List.replicate, Nat.reduceSub, Option.map, Bool.not_false, Bool.not_true, Bool.false_eq_true, if_true, if_false, reduceIte, Bool.and_true, Bool.true_and, Bool.and_self, q, decide_true]
  · simp only [evT, evE, bnd, bndS, bndE, bndL, pk1, pk2, peek, peekL, datL, parK, forL, compL, seqD, wipeS, tst, truD, outB, outD, binD, cmpD, deq, deqL, pln, plnL, modD, addD, mulD, fdivD, powD, subD, bltD, bolsD, itemD, bindT, Option.bind, List.length_cons, List.length_nil, List.getElem?_cons_zero, List.getElem?_cons_succ, List.set, List.isEmpty, List.cons_append, List.nil_append, List.replicate, Nat.reduceSub, Option.map, Bool.not_false, Bool.not_true, Bool.false_eq_true, if_true, if_false, reduceIte, Bool.and_true, Bool.true_and, Bool.and_self, q, decide_false, Bool.false_and]
def lcT : E := (.or (.cmp .ne (.blt .len (.cons (.arg 0) .nil)) (.lit (.int 4))) (.not (.tru (.blt .all (.cons (.comp [1] (.nm 1) (.var 0) (.lit (.bl true)) chI) .nil)))))
theorem lc_t {c : Ce} {a b d e : Int} : evE L c lcT [.d (.tup [.int a, .int b, .int d, .int e]), .un] S = some (.v (.d (.bl (!(inB a && (inB b && (inB d && inB e)))))), S) := by
  have h4 : ((((0 + 1 + 1 + 1 + 1 : Nat) : Int)) == 4) = true := by decide
  unfold lcT
  simp only [evT, evE, bnd, bndS, bndE, bndL, pk1, pk2, peek, peekL, datL, parK, forL, compL, seqD, wipeS, tst, truD, outB, outD, binD, cmpD, deq, deqL, pln, plnL, modD, addD, mulD, fdivD, powD, subD, bltD, bolsD, itemD, bindT, Option.bind, List.length_cons, List.length_nil, List.getElem?_cons_zero, List.getElem?_cons_succ, List.set, List.isEmpty, List.cons_append, List.nil_append, List.replicate, Nat.reduceSub, Option.map, Bool.not_false, Bool.not_true, Bool.false_eq_true, if_true, if_false, reduceIte, Bool.and_true, Bool.true_and, Bool.and_self, chn_in, h4, List.all_cons, List.all_nil, id, Nat.ble]
theorem lc_l {c : Ce} {xs : List D} (h : xs.length ≠ 4) : evE L c lcT [.d (.tup xs), .un] S = some (.v (.d (.bl true)), S) := by
  have h4 : ((xs.length : Int) == 4) = false := beq_eq_false_iff_ne.mpr (by omega)
  unfold lcT
  simp only [evT, evE, bnd, bndS, bndE, bndL, pk1, pk2, peek, peekL, datL, parK, forL, compL, seqD, wipeS, tst, truD, outB, outD, binD, cmpD, deq, deqL, pln, plnL, modD, addD, mulD, fdivD, powD, subD, bltD, bolsD, itemD, bindT, Option.bind, List.length_cons, List.length_nil, List.getElem?_cons_zero, List.getElem?_cons_succ, List.set, List.isEmpty, List.cons_append, List.nil_append, List.replicate, Nat.reduceSub, Option.map, Bool.not_false, Bool.not_true, Bool.false_eq_true, if_true, if_false, reduceIte, Bool.and_true, Bool.true_and, Bool.and_self, h4]
theorem fst4_ne {a b c d : Int} (h : 0 < prV a b c d a b c d) : fst4 a b c d ≠ 0 := by
  intro z
  unfold fst4 at z
  have : a = 0 ∧ b = 0 ∧ c = 0 ∧ d = 0 := by
    split at z
    · exact absurd z (by assumption)
    · split at z
      · exact absurd z (by assumption)
      · split at z
        · exact absurd z (by assumption)
        · exact ⟨by omega, by omega, by omega, z⟩
  obtain ⟨rfl, rfl, rfl, rfl⟩ := this
  exact absurd h (by decide)
/-- a circle as it is to be told -/
structure OkC (a b c d : Int) : Prop where
  b1 : inB a = true
  b2 : inB b = true
  b3 : inB c = true
  b4 : inB d = true
  pr : 0 < prV a b c d a b c d
  by1 : by4 a b c d = 1
theorem OkC.bd {a b c d : Int} (h : OkC a b c d) : Bd4 1000 a b c d := ⟨inB_bd h.b1, inB_bd h.b2, inB_bd h.b3, inB_bd h.b4⟩
theorem Bd4.mono {k l : Nat} {a b c d : Int} (h : Bd4 k a b c d) (q : k ≤ l) : Bd4 l a b c d := ⟨h.a.mono q, h.b.mono q, h.c.mono q, h.d.mono q⟩
theorem tid_1 {a b c d : Int} (h : by4 a b c d = 1) : tidV a b c d = .tup [.int a, .int b, .int c, .int d] := by
  unfold tidV
  rw [h]
  simp
def lcR (f f1 : Nat) : T := (.ite (.or (.cmp .le (.call f (.cons (.arg 0) (.cons (.arg 0) .nil))) (.lit (.int 0))) (.cmp .ne (.call f1 (.cons (.arg 0) .nil)) (.arg 0))) (.rse 1) .nop)
theorem irLC_eq {f f1 : Nat} : irLC f f1 = .seq (.ite lcT (.rse 1) .nop) (.ite (.or (.cmp .le (.call f (.cons (.arg 0) (.cons (.arg 0) .nil))) (.lit (.int 0))) (.cmp .ne (.call f1 (.cons (.arg 0) .nil)) (.arg 0))) (.rse 1) .nop) := rfl
theorem lc_s0 {c : Ce} {w : Nat} {x : D} (h : evE L c lcT [.d x, .un] S = some (.v (.d (.bl false)), S)) : evT L c w (.ite lcT (.rse 1) .nop) ([.d x] ++ List.replicate (2 - 1) .un) S = some (.nx, [.d x, .un], S) := by
  show (match evE L c lcT [.d x, .un] S with
    | some (.v (.d (.bl true)), S1) => evT L c w (.rse 1) [.d x, .un] S1
    | some (.v (.d (.bl false)), S1) => evT L c w .nop [.d x, .un] S1
    | some (.rz k, S1) => some (.rz k, [.d x, .un], S1)
    | _ => none) = _
  rw [h]
  rfl
theorem lc_s1 {c : Ce} {w : Nat} {x : D} (h : evE L c lcT [.d x, .un] S = some (.v (.d (.bl true)), S)) : evT L c w (.ite lcT (.rse 1) .nop) ([.d x] ++ List.replicate (2 - 1) .un) S = some (.rz 1, [.d x, .un], S) := by
  show (match evE L c lcT [.d x, .un] S with
    | some (.v (.d (.bl true)), S1) => evT L c w (.rse 1) [.d x, .un] S1
    | some (.v (.d (.bl false)), S1) => evT L c w .nop [.d x, .un] S1
    | some (.rz k, S1) => some (.rz k, [.d x, .un], S1)
    | _ => none) = _
  rw [h]
  rfl
variable {dv td pr lc : Nat}
theorem lc_ok (B : Bs Pr dv td pr lc) {a b c d : Int} (h : OkC a b c d) : callE L Pr (n + 3) lc [.d (.tup [.int a, .int b, .int c, .int d])] S = some (.ok .non, S) := by
  rw [call_0 B.hlc rfl]
  have e1 : evE L (callE L Pr (n + 2)) lcT [.d (.tup [.int a, .int b, .int c, .int d]), .un] S = some (.v (.d (.bl false)), S) := by
    rw [lc_t, h.b1, h.b2, h.b3, h.b4]; rfl
  have e2 := ev_product (L := L) (S := S) (n := n + 1) B.hpr (is4T (a := a) (b := b) (c := c) (d := d)) is4T h.bd h.bd
  have e3 := ev_tidy (L := L) (S := S) (n := n) B.hdv B.htd (is4T (a := a) (b := b) (c := c) (d := d)) (h.bd.mono (by decide)) (fst4_ne h.pr)
  rw [tid_1 h.by1] at e3
  have p0 : decide (prV a b c d a b c d ≤ 0) = false := decide_eq_false (by have := h.pr; omega)
  rw [irLC_eq, seq_nx (lc_s0 e1)]
  simp only [evT, evE, bnd, bndS, bndE, bndL, pk1, pk2, peek, peekL, datL, parK, forL, compL, seqD, wipeS, tst, truD, outB, outD, binD, cmpD, deq, deqL, pln, plnL, modD, addD, mulD, fdivD, powD, subD, bltD, bolsD, itemD, bindT, Option.bind, List.length_cons, List.length_nil, List.getElem?_cons_zero, List.getElem?_cons_succ, List.set, List.isEmpty, List.cons_append, List.nil_append, List.replicate, Nat.reduceSub, Option.map, Bool.not_false, Bool.not_true, Bool.false_eq_true, if_true, if_false, reduceIte, Bool.and_true, Bool.true_and, Bool.and_self, e2, e3, p0, BEq.rfl]
  exact ends_nx rfl
theorem lc_no (B : Bs Pr dv td pr lc) {x : D} (e1 : ∀ c, evE L c lcT [.d x, .un] S = some (.v (.d (.bl true)), S)) : callE L Pr (n + 3) lc [.d x] S = some (.rz 1, S) := by
  rw [call_0 B.hlc rfl, irLC_eq, seq_rz (lc_s1 (e1 _))]
  exact ends_rz rfl
theorem lc_len (B : Bs Pr dv td pr lc) {xs : List D} (h : xs.length ≠ 4) : callE L Pr (n + 3) lc [.d (.tup xs)] S = some (.rz 1, S) := lc_no B fun c => lc_l h
theorem lc_big (B : Bs Pr dv td pr lc) {a b c d : Int} (h : (inB a && (inB b && (inB c && inB d))) = false) : callE L Pr (n + 3) lc [.d (.tup [.int a, .int b, .int c, .int d])] S = some (.rz 1, S) := lc_no B fun c => by rw [lc_t, h]; rfl
theorem lc_pr (B : Bs Pr dv td pr lc) {a b c d : Int} (b1 : inB a = true) (b2 : inB b = true) (b3 : inB c = true) (b4 : inB d = true) (h : prV a b c d a b c d ≤ 0) : callE L Pr (n + 3) lc [.d (.tup [.int a, .int b, .int c, .int d])] S = some (.rz 1, S) := by
  rw [call_0 B.hlc rfl]
  have e1 : evE L (callE L Pr (n + 2)) lcT [.d (.tup [.int a, .int b, .int c, .int d]), .un] S = some (.v (.d (.bl false)), S) := by
    rw [lc_t, b1, b2, b3, b4]; rfl
  have bd : Bd4 1000 a b c d := ⟨inB_bd b1, inB_bd b2, inB_bd b3, inB_bd b4⟩
  have e2 := ev_product (L := L) (S := S) (n := n + 1) B.hpr (is4T (a := a) (b := b) (c := c) (d := d)) is4T bd bd
  have p0 : decide (prV a b c d a b c d ≤ 0) = true := decide_eq_true h
  rw [irLC_eq, seq_nx (lc_s0 e1)]
  simp only [evT, evE, bnd, bndS, bndE, bndL, pk1, pk2, peek, peekL, datL, parK, forL, compL, seqD, wipeS, tst, truD, outB, outD, binD, cmpD, deq, deqL, pln, plnL, modD, addD, mulD, fdivD, powD, subD, bltD, bolsD, itemD, bindT, Option.bind, List.length_cons, List.length_nil, List.getElem?_cons_zero, List.getElem?_cons_succ, List.set, List.isEmpty, List.cons_append, List.nil_append, List.replicate, Nat.reduceSub, Option.map, Bool.not_false, Bool.not_true, Bool.false_eq_true, if_true, if_false, reduceIte, Bool.and_true, Bool.true_and, Bool.and_self, e2, p0]
  exact ends_rz rfl
/-- told not least -/
theorem tid_ne {a b c d : Int} (h0 : fst4 a b c d ≠ 0) (h : by4 a b c d ≠ 1) : ((a.fdiv (by4 a b c d) == a) && ((b.fdiv (by4 a b c d) == b) && ((c.fdiv (by4 a b c d) == c) && (d.fdiv (by4 a b c d) == d)))) = false := by
  rw [Bool.eq_false_iff]
  intro z
  rw [Bool.and_eq_true, Bool.and_eq_true, Bool.and_eq_true, beq_iff_eq, beq_iff_eq, beq_iff_eq, beq_iff_eq] at z
  obtain ⟨z1, z2, z3, z4⟩ := z
  have key : ∀ {e : Int}, e ≠ 0 → e.fdiv (by4 a b c d) = e → by4 a b c d ∣ e → False := fun {e} he z q => by
    obtain ⟨k, rfl⟩ := q
    have hb : by4 a b c d ≠ 0 := fun q => he (by rw [q, Int.zero_mul])
    rw [Int.mul_fdiv_cancel_left _ hb] at z
    have hk : k ≠ 0 := fun q => he (by rw [q, Int.mul_zero])
    have : k * 1 = k * by4 a b c d := by rw [Int.mul_one, Int.mul_comm k]; exact z
    exact h (Int.eq_of_mul_eq_mul_left hk this).symm
  have dvs : ∀ {e : Int}, ((gcd4 a b c d : Nat) : Int) ∣ e → by4 a b c d ∣ e := fun {e} q => by
    unfold by4
    split
    · exact q
    · rw [Int.zero_sub]; exact Int.neg_dvd.mpr q
  have g1 : ((gcd4 a b c d : Nat) : Int) ∣ d := Int.gcd_dvd_left _ _
  have g2 : ((gcd4 a b c d : Nat) : Int) ∣ c := Int.dvd_trans (Int.gcd_dvd_right _ _) (Int.gcd_dvd_left _ _)
  have g3 : ((gcd4 a b c d : Nat) : Int) ∣ b := Int.dvd_trans (Int.dvd_trans (Int.gcd_dvd_right _ _) (Int.gcd_dvd_right _ _)) (Int.gcd_dvd_left _ _)
  have g4 : ((gcd4 a b c d : Nat) : Int) ∣ a := Int.dvd_trans (Int.dvd_trans (Int.dvd_trans (Int.gcd_dvd_right _ _) (Int.gcd_dvd_right _ _)) (Int.gcd_dvd_right _ _)) (Int.gcd_dvd_left _ _)
  by_cases ha : a = 0
  · by_cases hb : b = 0
    · by_cases hc : c = 0
      · have hd : d ≠ 0 := by
          subst ha hb hc
          simpa [fst4] using h0
        exact key hd z4 (dvs g1)
      · exact key hc z3 (dvs g2)
    · exact key hb z2 (dvs g3)
  · exact key ha z1 (dvs g4)
theorem lc_td (B : Bs Pr dv td pr lc) {a b c d : Int} (b1 : inB a = true) (b2 : inB b = true) (b3 : inB c = true) (b4 : inB d = true) (h : 0 < prV a b c d a b c d) (hb : by4 a b c d ≠ 1) : callE L Pr (n + 3) lc [.d (.tup [.int a, .int b, .int c, .int d])] S = some (.rz 1, S) := by
  rw [call_0 B.hlc rfl]
  have e1 : evE L (callE L Pr (n + 2)) lcT [.d (.tup [.int a, .int b, .int c, .int d]), .un] S = some (.v (.d (.bl false)), S) := by
    rw [lc_t, b1, b2, b3, b4]; rfl
  have bd : Bd4 1000 a b c d := ⟨inB_bd b1, inB_bd b2, inB_bd b3, inB_bd b4⟩
  have e2 := ev_product (L := L) (S := S) (n := n + 1) B.hpr (is4T (a := a) (b := b) (c := c) (d := d)) is4T bd bd
  have e3 := ev_tidy (L := L) (S := S) (n := n) B.hdv B.htd (is4T (a := a) (b := b) (c := c) (d := d)) (bd.mono (by decide)) (fst4_ne h)
  have p0 : decide (prV a b c d a b c d ≤ 0) = false := decide_eq_false (by omega)
  have t := tid_ne (fst4_ne h) hb
  rw [irLC_eq, seq_nx (lc_s0 e1)]
  simp only [evT, evE, bnd, bndS, bndE, bndL, pk1, pk2, peek, peekL, datL, parK, forL, compL, seqD, wipeS, tst, truD, outB, outD, binD, cmpD, deq, deqL, pln, plnL, modD, addD, mulD, fdivD, powD, subD, bltD, bolsD, itemD, bindT, Option.bind, List.length_cons, List.length_nil, List.getElem?_cons_zero, List.getElem?_cons_succ, List.set, List.isEmpty, List.cons_append, List.nil_append, List.replicate, Nat.reduceSub, Option.map, Bool.not_false, Bool.not_true, Bool.false_eq_true, if_true, if_false, reduceIte, Bool.and_true, Bool.true_and, Bool.and_self, e2, e3, p0, tidV, t]
  exact ends_rz rfl
end
end Cm

/-! the laws' own circles -/
namespace Cm
open PySem PySem.Spec PyProof.Rows L2
theorem gcd4_nat {a b c d : Int} : gcd4 a b c d = Nat.gcd d.natAbs (Nat.gcd c.natAbs (Nat.gcd b.natAbs a.natAbs)) := by
  unfold gcd4
  simp only [Int.gcd, Int.natAbs_natCast, Int.natAbs_zero, Nat.gcd_zero_right]
theorem gcd4_mul {k a b c d : Int} : gcd4 (k * a) (k * b) (k * c) (k * d) = k.natAbs * gcd4 a b c d := by
  rw [gcd4_nat, gcd4_nat]
  simp only [Int.natAbs_mul, Nat.gcd_mul_left]
theorem fst4_mul {k a b c d : Int} (hk : k ≠ 0) : fst4 (k * a) (k * b) (k * c) (k * d) = k * fst4 a b c d := by
  have e : ∀ x : Int, (k * x ≠ 0) = (x ≠ 0) := fun x => by
    rw [eq_iff_iff]
    constructor
    · intro h z; exact h (by rw [z, Int.mul_zero])
    · intro h z; rcases Int.mul_eq_zero.mp z with z | z
      · exact hk z
      · exact h z
  unfold fst4
  simp only [e]
  split
  · rfl
  · split
    · rfl
    · split <;> rfl
theorem by4_abs {a b c d : Int} : (by4 a b c d).natAbs = gcd4 a b c d := by
  unfold by4
  split <;> omega
theorem gcd4_dvd {a b c d : Int} : ((gcd4 a b c d : Nat) : Int) ∣ a ∧ ((gcd4 a b c d : Nat) : Int) ∣ b ∧ ((gcd4 a b c d : Nat) : Int) ∣ c ∧ ((gcd4 a b c d : Nat) : Int) ∣ d :=
  ⟨Int.dvd_trans (Int.dvd_trans (Int.dvd_trans (Int.gcd_dvd_right _ _) (Int.gcd_dvd_right _ _)) (Int.gcd_dvd_right _ _)) (Int.gcd_dvd_left _ _), Int.dvd_trans (Int.dvd_trans (Int.gcd_dvd_right _ _) (Int.gcd_dvd_right _ _)) (Int.gcd_dvd_left _ _), Int.dvd_trans (Int.gcd_dvd_right _ _) (Int.gcd_dvd_left _ _), Int.gcd_dvd_left _ _⟩
theorem by4_dvd {a b c d : Int} : by4 a b c d ∣ a ∧ by4 a b c d ∣ b ∧ by4 a b c d ∣ c ∧ by4 a b c d ∣ d := by
  have g := @gcd4_dvd a b c d
  unfold by4
  split
  · exact g
  · rw [Int.zero_sub]
    exact ⟨Int.neg_dvd.mpr g.1, Int.neg_dvd.mpr g.2.1, Int.neg_dvd.mpr g.2.2.1, Int.neg_dvd.mpr g.2.2.2⟩
/-- least telling: the four are by4 times four that are told least -/
theorem tid_split {a b c d : Int} (h0 : fst4 a b c d ≠ 0) : ∃ k a' b' c' d' : Int, k = by4 a b c d ∧ k ≠ 0 ∧ a = k * a' ∧ b = k * b' ∧ c = k * c' ∧ d = k * d' ∧ tidV a b c d = .tup [.int a', .int b', .int c', .int d'] ∧ by4 a' b' c' d' = 1 := by
  obtain ⟨⟨a', ha⟩, ⟨b', hb⟩, ⟨c', hc⟩, ⟨d', hd⟩⟩ := @by4_dvd a b c d
  have hk : by4 a b c d ≠ 0 := by
    have := @by4_abs a b c d
    have := gcd4_ne h0
    omega
  refine ⟨_, a', b', c', d', rfl, hk, ha, hb, hc, hd, ?_, ?_⟩
  · unfold tidV
    generalize by4 a b c d = k at *
    rw [ha, hb, hc, hd, Int.mul_fdiv_cancel_left _ hk, Int.mul_fdiv_cancel_left _ hk, Int.mul_fdiv_cancel_left _ hk, Int.mul_fdiv_cancel_left _ hk]
  · have e1 := @by4_abs a b c d
    have e2 : gcd4 a b c d = (by4 a b c d).natAbs * gcd4 a' b' c' d' := by
      rw [← gcd4_mul, ← ha, ← hb, ← hc, ← hd]
    have e3 : fst4 a b c d = by4 a b c d * fst4 a' b' c' d' := by
      rw [← fst4_mul hk, ← ha, ← hb, ← hc, ← hd]
    have g1 : gcd4 a' b' c' d' = 1 := by
      rw [e1] at e2
      have : gcd4 a b c d ≠ 0 := gcd4_ne h0
      have e4 : gcd4 a b c d * 1 = gcd4 a b c d * gcd4 a' b' c' d' := by rw [Nat.mul_one]; exact e2
      exact (Nat.eq_of_mul_eq_mul_left (by omega) e4).symm
    have g2 : 0 < fst4 a' b' c' d' := by
      have s : 0 < by4 a b c d ↔ 0 < fst4 a b c d := by
        have : gcd4 a b c d ≠ 0 := gcd4_ne h0
        unfold by4
        split <;> omega
      rcases Int.lt_trichotomy 0 (by4 a b c d) with q | q | q
      · have := s.mp q
        rw [e3] at this
        rcases Int.lt_trichotomy 0 (fst4 a' b' c' d') with z | z | z
        · exact z
        · rw [← z, Int.mul_zero] at this; omega
        · have := Int.mul_neg_of_pos_of_neg q z
          omega
      · exact absurd q.symm hk
      · have : ¬ 0 < fst4 a b c d := fun z => by have := s.mpr z; omega
        have : fst4 a b c d < 0 := by omega
        rw [e3] at this
        rcases Int.lt_trichotomy 0 (fst4 a' b' c' d') with z | z | z
        · exact z
        · rw [← z, Int.mul_zero] at this; omega
        · have := Int.mul_pos_of_neg_of_neg q z
          omega
    unfold by4
    rw [if_pos g2, g1]
    rfl
theorem prV_mul {k a b c d : Int} : prV (k * a) (k * b) (k * c) (k * d) (k * a) (k * b) (k * c) (k * d) = k * k * prV a b c d a b c d := by
  unfold prV
  grind
end Cm

/-! the laws' own product, tidy, circle -/
namespace Cm
open PySem PySem.Spec PyProof.Rows L2
def irLP : T := (.seq (.asg (.nm 2) (.bin .add (.bin .mul (.idx (.arg 0) (.lit (.int 1))) (.idx (.arg 1) (.lit (.int 1)))) (.bin .mul (.idx (.arg 0) (.lit (.int 2))) (.idx (.arg 1) (.lit (.int 2)))))) (.ret (.bin .sub (.bin .sub (.arg 2) (.bin .mul (.bin .mul (.lit (.int 2)) (.idx (.arg 0) (.lit (.int 0)))) (.idx (.arg 1) (.lit (.int 3))))) (.bin .mul (.bin .mul (.lit (.int 2)) (.idx (.arg 0) (.lit (.int 3)))) (.idx (.arg 1) (.lit (.int 0)))))))
def ltW : T := (.whl (.cmp .gt (.arg 3) (.lit (.int 0))) (.asg (.cons (.nm 1) (.cons (.nm 3) .nil)) (.tup (.cons (.var 3) (.cons (.bin .mod (.arg 1) (.arg 3)) .nil)))))
def ltB : T := (.seq (.asg (.nm 3) (.blt .abs (.cons (.arg 2) .nil))) ltW)
def irLT : T := (.seq (.asg (.nm 1) (.lit (.int 0))) (.seq (.for (.nm 2) (.var 0) ltB) (.seq (.asg (.nm 4) (.idx (.comp [2] (.nm 2) (.var 0) (.cmp .ne (.arg 2) (.lit (.int 0))) (.var 2)) (.lit (.int 0)))) (.ret (.blt .tuple (.cons (.comp [2] (.nm 2) (.var 0) (.lit (.bl true)) (.ifx (.cmp .gt (.arg 4) (.lit (.int 0))) (.bin .fdiv (.arg 2) (.arg 1)) (.bin .sub (.lit (.int 0)) (.bin .fdiv (.arg 2) (.arg 1))))) .nil))))))
def irLK (dw lp lt : Nat) : T := (.seq (.asgM 2 0 (.comp [3] (.nm 3) (.rng1 (.lit (.int 4))) (.lit (.bl true)) (.bin .sub (.call dw (.cons (.arg 0) (.cons (.arg 1) (.cons (.lit (.int 13)) .nil)))) (.lit (.int 6))))) (.seq (.ite (.cmp .eq (.call dw (.cons (.arg 0) (.cons (.arg 1) (.cons (.lit (.int 4)) .nil)))) (.lit (.int 0))) (.setx (.arg 2) (.lit (.int 0)) (.lit (.int 0))) .nop) (.seq (.ite (.cmp .le (.call lp (.cons (.arg 2) (.cons (.arg 2) .nil))) (.lit (.int 0))) (.asgM 2 0 (.lst (.cons (.lit (.int 1)) (.cons (.idx (.arg 2) (.lit (.int 1))) (.cons (.idx (.arg 2) (.lit (.int 2))) (.cons (.bin .sub (.bin .sub (.lit (.int 0)) (.lit (.int 1))) (.blt .abs (.cons (.idx (.arg 2) (.lit (.int 3))) .nil))) .nil)))))) .nop) (.ret (.call lt (.cons (.arg 2) .nil))))))
section
variable {L : Lw} {Pr : List Fn} {n : Nat} {S : Sto}
/-- the slot s shows x -/
def Sh (S : Sto) (s : Sl) (x : D) : Prop := peek S s = some x ∧ s ≠ .un
theorem Sh.d {x : D} : Sh S (.d x) x := ⟨rfl, fun h => by cases h⟩
theorem Sh.ref {j : Nat} {x : D} (h : S[j]? = some (.live x)) : Sh S (.ref j) x := ⟨by show (match S[j]? with | some (.live x) => some x | some (.fz x) => some x | _ => none) = _; rw [h], fun h => by cases h⟩
theorem ev_arg {c : Ce} {fr : Fr} {i : Nat} {s : Sl} (h : fr[i]? = some s) (hs : s ≠ .un) : evE L c (.arg i) fr S = some (.v s, S) := by
  show (match fr[i]? with
    | some (.d x) => some (Xr.v (.d x), S)
    | some (.ref j) => some (Xr.v (.ref j), S)
    | _ => none) = _
  rw [h]
  cases s with
  | un => exact absurd rfl hs
  | d x => rfl
  | ref j => rfl
theorem ev_lproduct {f : Nat} (h : Pr[f]? = some ⟨2, 3, 0, irLP⟩) {s t : Sl} {x y : D} {a b c d a' b' c' d' : Int} (sx : Sh S s x) (sy : Sh S t y) (hx : Is4 x a b c d) (hy : Is4 y a' b' c' d') (bx : Bd4 1000 a b c d) (by' : Bd4 1000 a' b' c' d') : callE L Pr (n + 1) f [s, t] S = some (.ok (.int (prV a b c d a' b' c' d')), S) := by
  rw [call_0 h rfl]
  have s2 := Bd.two.sm (by decide)
  have sa := bx.a.sm (by decide)
  have sb := bx.b.sm (by decide)
  have sc := bx.c.sm (by decide)
  have sd := bx.d.sm (by decide)
  have ta := by'.a.sm (by decide)
  have tb := by'.b.sm (by decide)
  have tc := by'.c.sm (by decide)
  have td := by'.d.sm (by decide)
  have u1 := (Bd.two.mul bx.a).sm (by decide)
  have u2 := (Bd.two.mul bx.d).sm (by decide)
  have e : b * b' + c * c' - 2 * a * d' - 2 * d * a' = prV a b c d a' b' c' d' := rfl
  obtain ⟨p1, p2⟩ := sx
  obtain ⟨q1, q2⟩ := sy
  have pi : ∀ z : D, peek S (.d z) = some z := fun z => rfl
  cases s with
  | un => exact absurd rfl p2
  | d x0 =>
    have p1 : x0 = x := Option.some.inj p1
    subst p1
    cases t with
    | un => exact absurd rfl q2
    | d y0 =>
      have q1 : y0 = y := Option.some.inj q1
      subst q1
      simp only [irLP, evT, evE, bnd, bndS, bndE, bndL, pk1, pk2, peekL, datL, parK, forL, compL, wipeS, tst, truD, outB, outD, binD, cmpD, deq, deqL, pln, plnL, modD, addD, mulD, fdivD, powD, subD, bltD, bolsD, bindT, Option.bind, List.length_cons, List.length_nil, List.getElem?_cons_zero, List.getElem?_cons_succ, List.set, List.isEmpty, List.cons_append, List.nil_append, List.replicate, Nat.reduceSub, Option.map, Bool.not_false, Bool.not_true, Bool.false_eq_true, if_true, if_false, reduceIte, Bool.and_true, Bool.true_and, Bool.and_self, pi, List.append_nil, hx.i0, hx.i1, hx.i2, hx.i3, hy.i0, hy.i1, hy.i2, hy.i3, s2, sa, sb, sc, sd, ta, tb, tc, td, u1, u2, e]
      exact ends_ret rfl
    | ref k =>
      simp only [irLP, evT, evE, bnd, bndS, bndE, bndL, pk1, pk2, peekL, datL, parK, forL, compL, wipeS, tst, truD, outB, outD, binD, cmpD, deq, deqL, pln, plnL, modD, addD, mulD, fdivD, powD, subD, bltD, bolsD, bindT, Option.bind, List.length_cons, List.length_nil, List.getElem?_cons_zero, List.getElem?_cons_succ, List.set, List.isEmpty, List.cons_append, List.nil_append, List.replicate, Nat.reduceSub, Option.map, Bool.not_false, Bool.not_true, Bool.false_eq_true, if_true, if_false, reduceIte, Bool.and_true, Bool.true_and, Bool.and_self, pi, q1, List.append_nil, hx.i0, hx.i1, hx.i2, hx.i3, hy.i0, hy.i1, hy.i2, hy.i3, s2, sa, sb, sc, sd, ta, tb, tc, td, u1, u2, e]
      exact ends_ret rfl
  | ref j =>
    cases t with
    | un => exact absurd rfl q2
    | d y0 =>
      have q1 : y0 = y := Option.some.inj q1
      subst q1
      simp only [irLP, evT, evE, bnd, bndS, bndE, bndL, pk1, pk2, peekL, datL, parK, forL, compL, wipeS, tst, truD, outB, outD, binD, cmpD, deq, deqL, pln, plnL, modD, addD, mulD, fdivD, powD, subD, bltD, bolsD, bindT, Option.bind, List.length_cons, List.length_nil, List.getElem?_cons_zero, List.getElem?_cons_succ, List.set, List.isEmpty, List.cons_append, List.nil_append, List.replicate, Nat.reduceSub, Option.map, Bool.not_false, Bool.not_true, Bool.false_eq_true, if_true, if_false, reduceIte, Bool.and_true, Bool.true_and, Bool.and_self, pi, p1, List.append_nil, hx.i0, hx.i1, hx.i2, hx.i3, hy.i0, hy.i1, hy.i2, hy.i3, s2, sa, sb, sc, sd, ta, tb, tc, td, u1, u2, e]
      exact ends_ret rfl
    | ref k =>
      simp only [irLP, evT, evE, bnd, bndS, bndE, bndL, pk1, pk2, peekL, datL, parK, forL, compL, wipeS, tst, truD, outB, outD, binD, cmpD, deq, deqL, pln, plnL, modD, addD, mulD, fdivD, powD, subD, bltD, bolsD, bindT, Option.bind, List.length_cons, List.length_nil, List.getElem?_cons_zero, List.getElem?_cons_succ, List.set, List.isEmpty, List.cons_append, List.nil_append, List.replicate, Nat.reduceSub, Option.map, Bool.not_false, Bool.not_true, Bool.false_eq_true, if_true, if_false, reduceIte, Bool.and_true, Bool.true_and, Bool.and_self, pi, p1, q1, List.append_nil, hx.i0, hx.i1, hx.i2, hx.i3, hy.i0, hy.i1, hy.i2, hy.i3, s2, sa, sb, sc, sd, ta, tb, tc, td, u1, u2, e]
      exact ends_ret rfl
theorem lt_while {c : Ce} {w : Nat} {s o f : Sl} : ∀ (m : Nat) (p q : Int), 0 ≤ p → 0 ≤ q → q.natAbs < m → whlL (evE L c (.cmp .gt (.arg 3) (.lit (.int 0)))) (evT L c w (.asg (.cons (.nm 1) (.cons (.nm 3) .nil)) (.tup (.cons (.var 3) (.cons (.bin .mod (.arg 1) (.arg 3)) .nil))))) m [s, .d (.int p), o, .d (.int q), f] S = some (.nx, [s, .d (.int (Int.gcd p q : Nat)), o, .d (.int 0), f], S)
  | 0, p, q, _, _, h => absurd h (Nat.not_lt_zero _)
  | m + 1, p, q, hp, hq, h => by
    by_cases hb : q = 0
    · subst hb
      have e : ((Int.gcd p 0 : Nat) : Int) = p := by rw [Int.gcd_zero_right]; omega
      rw [e]
      simp only [whlL, evT, evE, bnd, bndS, bndE, bndL, pk1, pk2, peek, peekL, datL, parK, forL, compL, seqD, wipeS, tst, truD, outB, outD, binD, cmpD, deq, deqL, pln, plnL, modD, addD, mulD, fdivD, powD, subD, bltD, bolsD, itemD, bindT, Option.bind, List.length_cons, List.length_nil, List.getElem?_cons_zero, List.getElem?_cons_succ, List.set, List.isEmpty, List.cons_append, List.nil_append, List.replicate, Nat.reduceSub, Option.map, Bool.not_false, Bool.not_true, Bool.false_eq_true, if_true, if_false, reduceIte, Bool.and_true, Bool.true_and, Bool.and_self, Int.lt_irrefl, decide_false]
    · have z2 := lt_while (c := c) (w := w) (s := s) (o := o) (f := f) m q (p.fmod q) hq (Int.fmod_nonneg_of_pos _ (by omega)) (by have := @fmod_abs p q hb; omega)
      rw [gcd_step] at z2
      have hb1 : decide (0 < q) = true := decide_eq_true (by omega)
      have hb2 : (q == 0) = false := beq_eq_false_iff_ne.mpr hb
      simp only [whlL, evT, evE, bnd, bndS, bndE, bndL, pk1, pk2, peek, peekL, datL, parK, forL, compL, seqD, wipeS, tst, truD, outB, outD, binD, cmpD, deq, deqL, pln, plnL, modD, addD, mulD, fdivD, powD, subD, bltD, bolsD, itemD, bindT, Option.bind, List.length_cons, List.length_nil, List.getElem?_cons_zero, List.getElem?_cons_succ, List.set, List.isEmpty, List.cons_append, List.nil_append, List.replicate, Nat.reduceSub, Option.map, Bool.not_false, Bool.not_true, Bool.false_eq_true, if_true, if_false, reduceIte, Bool.and_true, Bool.true_and, Bool.and_self, hb1, hb2, Nat.ble]
      exact z2
/-- one turn of the law's tidy -/
theorem lt_turn {c : Ce} {w : Nat} {s f : Sl} {t : Sl} {p a : Int} (hp : 0 ≤ p) (ha : Bd 5000 a) : evT L c w ltB [s, .d (.int p), .d (.int a), t, f] S = some (.nx, [s, .d (.int (Int.gcd p a : Nat)), .d (.int a), .d (.int 0), f], S) := by
  have e1 : evT L c w (.asg (.nm 3) (.blt .abs (.cons (.arg 2) .nil))) [s, .d (.int p), .d (.int a), t, f] S = some (.nx, [s, .d (.int p), .d (.int a), .d (.int (if a < 0 then -a else a)), f], S) := by
    simp only [evT, evE, bnd, bndS, bndE, bndL, pk1, pk2, peek, peekL, datL, parK, forL, compL, seqD, wipeS, tst, truD, outB, outD, binD, cmpD, deq, deqL, pln, plnL, modD, addD, mulD, fdivD, powD, subD, bltD, bolsD, itemD, bindT, Option.bind, List.length_cons, List.length_nil, List.getElem?_cons_zero, List.getElem?_cons_succ, List.set, List.isEmpty, List.cons_append, List.nil_append, List.replicate, Nat.reduceSub, Option.map, Bool.not_false, Bool.not_true, Bool.false_eq_true, if_true, if_false, reduceIte, Bool.and_true, Bool.true_and, Bool.and_self]
  have z := lt_while (L := L) (S := S) (c := c) (w := w) (s := s) (o := .d (.int a)) (f := f) LF p (if a < 0 then -a else a) hp (by split <;> omega) (by
    have : (if a < 0 then -a else a).natAbs = a.natAbs := by split <;> omega
    rw [this]
    exact ha.mono (by decide))
  have g : Int.gcd p (if a < 0 then -a else a) = Int.gcd p a := by
    split
    · rw [Int.gcd_neg]
    · rfl
  rw [g] at z
  unfold ltB
  rw [seq_nx e1]
  exact z
theorem neg_fdiv {g a : Int} (hg : g ≠ 0) (h : g ∣ a) : 0 - a.fdiv g = a.fdiv (0 - g) := by
  obtain ⟨k, rfl⟩ := h
  rw [Int.mul_fdiv_cancel_left _ hg]
  have e : g * k = (0 - g) * (0 - k) := by grind
  rw [e, Int.mul_fdiv_cancel_left _ (by omega)]
theorem gcd4_law {a b c d : Int} : Int.gcd (Int.gcd (Int.gcd (Int.gcd 0 a : Nat) b : Nat) c : Nat) d = gcd4 a b c d := by
  rw [gcd4_nat]
  simp only [Int.gcd, Int.natAbs_natCast, Int.natAbs_zero, Nat.gcd_zero_left]
  rw [Nat.gcd_comm _ d.natAbs, Nat.gcd_comm _ c.natAbs, Nat.gcd_comm _ b.natAbs]
theorem lt_core {c : Ce} {w : Nat} {s : Sl} {x : D} {S' : Sto} {a b d e : Int} (hx : Is4 x a b d e) (bx : Bd4 5000 a b d e) (h0 : fst4 a b d e ≠ 0) (hv0 : evE L c (.var 0) [s, .d (.int 0), .un, .un, .un] S = some (.v (.d x), S')) (hv1 : ∀ r, evE L c (.var 0) (s :: r) S' = some (.v (.d x), S')) :
    evT L c w irLT [s, .un, .un, .un, .un] S = some (.ret (tidV a b d e), [s, .d (.int (gcd4 a b d e : Nat)), .d (.int e), .d (.int 0), .d (.int (fst4 a b d e))], S') := by
  have t1 := lt_turn (L := L) (S := S') (c := c) (w := w) (s := s) (f := .un) (t := .un) (p := 0) (a := a) (by decide) bx.a
  have t2 := lt_turn (L := L) (S := S') (c := c) (w := w) (s := s) (f := .un) (t := .d (.int 0)) (p := (Int.gcd 0 a : Nat)) (a := b) (by omega) bx.b
  have t3 := lt_turn (L := L) (S := S') (c := c) (w := w) (s := s) (f := .un) (t := .d (.int 0)) (p := (Int.gcd (Int.gcd 0 a : Nat) b : Nat)) (a := d) (by omega) bx.c
  have t4 := lt_turn (L := L) (S := S') (c := c) (w := w) (s := s) (f := .un) (t := .d (.int 0)) (p := (Int.gcd (Int.gcd (Int.gcd 0 a : Nat) b : Nat) d : Nat)) (a := e) (by omega) bx.d
  rw [gcd4_law] at t4
  have g0 := gcd4_ne h0
  have b4 : Bd 5000 (gcd4 a b d e : Nat) := bx.d.gcd (bx.c.gcd (bx.b.gcd (bx.a.gcd (Bd.zero.mono (by decide)))))
  have w0 : (((gcd4 a b d e : Nat) : Int) == 0) = false := beq_eq_false_iff_ne.mpr (by omega)
  have w1 : smB ((gcd4 a b d e : Nat) : Int) = true := b4.sm (by decide)
  have f1 : evT L c w (.for (.nm 2) (.var 0) ltB) [s, .d (.int 0), .un, .un, .un] S = some (.nx, [s, .d (.int (gcd4 a b d e : Nat)), .d (.int e), .d (.int 0), .un], S') := by
    show bndE [s, .d (.int 0), .un, .un, .un] (evE L c (.var 0) [s, .d (.int 0), .un, .un, .un] S) _ = _
    rw [hv0]
    simp only [bndE, hx.sq, forL, bindT, List.set, t1, t2, t3, t4]
  have t1 : evT L c w (.asg (.nm 4) (.idx (.comp [2] (.nm 2) (.var 0) (.cmp .ne (.arg 2) (.lit (.int 0))) (.var 2)) (.lit (.int 0)))) [s, .d (.int (gcd4 a b d e : Nat)), .d (.int e), .d (.int 0), .un] S' = some (.nx, [s, .d (.int (gcd4 a b d e : Nat)), .d (.int e), .d (.int 0), .d (.int (fst4 a b d e))], S') := by
    generalize gcd4 a b d e = gg
    have ix : ∀ (z : D) (l : List D), itemD (.lst (z :: l)) 0 = some z := fun z l => by
      show (ixN (z :: l).length 0).bind (fun j => (z :: l)[j]?) = some z
      have e : ixN (z :: l).length 0 = some 0 := by
        unfold ixN
        rw [if_pos (by omega), if_pos (by rw [List.length_cons]; omega)]
        rfl
      rw [e]
      rfl
    have nb : ∀ {i : Int}, i ≠ 0 → (i == 0) = false := fun h => beq_eq_false_iff_ne.mpr h
    have sq := hx.sq
    have cm : evE L c (.comp [2] (.nm 2) (.var 0) (.cmp .ne (.arg 2) (.lit (.int 0))) (.var 2)) [s, .d (.int gg), .d (.int e), .d (.int 0), .un] S' = some (.v (.d (.lst ([D.int a, .int b, .int d, .int e].filter fun z => !deq z (.int 0)))), S') := by
      show bnd (evE L c (.var 0) [s, .d (.int gg), .d (.int e), .d (.int 0), .un] S') _ = _
      rw [hv1]
      by_cases ha : a = 0 <;> by_cases hb : b = 0 <;> by_cases hd : d = 0 <;> by_cases he : e = 0 <;> simp [evT, evE, bnd, bndS, bndE, bndL, pk1, pk2, peek, peekL, datL, parK, forL, compL, wipeS, tst, truD, outB, outD, binD, cmpD, deq, deqL, pln, plnL, modD, addD, mulD, fdivD, powD, subD, bltD, bolsD, bindT, Option.bind, List.length_cons, List.length_nil, List.getElem?_cons_zero, List.getElem?_cons_succ, List.set, List.isEmpty, List.cons_append, List.nil_append, List.replicate, Nat.reduceSub, Option.map, Bool.not_false, Bool.not_true, Bool.false_eq_true, if_true, if_false, reduceIte, Bool.and_true, Bool.true_and, Bool.and_self, sq, ha, hb, hd, he, nb]
    have fi : itemD (.lst ([D.int a, .int b, .int d, .int e].filter fun z => !deq z (.int 0))) 0 = some (.int (fst4 a b d e)) := by
      unfold fst4 at h0 ⊢
      by_cases ha : a = 0
      · by_cases hb : b = 0
        · by_cases hd : d = 0
          · have he : e ≠ 0 := by simpa [ha, hb, hd] using h0
            simp [ha, hb, hd, he, deq, nb, ix]
          · simp [ha, hb, hd, deq, nb, ix]
        · simp [ha, hb, deq, nb, ix]
      · simp [ha, deq, nb, ix]
    show bndE _ (bnd (evE L c (.comp [2] (.nm 2) (.var 0) (.cmp .ne (.arg 2) (.lit (.int 0))) (.var 2)) [s, .d (.int gg), .d (.int e), .d (.int 0), .un] S') _) _ = _
    rw [cm]
    show bndE _ (outD S' (itemD (.lst ([D.int a, .int b, .int d, .int e].filter fun z => !deq z (.int 0))) 0)) _ = _
    rw [fi]
    rfl
  unfold irLT
  rw [seq_nx (fr1 := [s, .d (.int 0), .un, .un, .un]) (S1 := S) rfl, seq_nx f1, seq_nx t1]
  have g := @gcd4_dvd a b d e
  show bndE _ (bndL (bnd (bnd (evE L c (.var 0) [s, .d (.int (gcd4 a b d e : Nat)), .d (.int e), .d (.int 0), .d (.int (fst4 a b d e))] S') _) _) _) _ = _
  rw [hv1]
  unfold tidV by4
  by_cases q : 0 < fst4 a b d e
  · rw [if_pos q]
    simp only [evT, evE, bnd, bndS, bndE, bndL, pk1, pk2, peek, peekL, datL, parK, forL, compL, wipeS, tst, truD, outB, outD, binD, cmpD, deq, deqL, pln, plnL, modD, addD, mulD, fdivD, powD, subD, bltD, bolsD, bindT, Option.bind, List.length_cons, List.length_nil, List.getElem?_cons_zero, List.getElem?_cons_succ, List.set, List.isEmpty, List.cons_append, List.nil_append, List.replicate, Nat.reduceSub, Option.map, Bool.not_false, Bool.not_true, Bool.false_eq_true, if_true, if_false, reduceIte, Bool.and_true, Bool.true_and, Bool.and_self, hx.sq, q, decide_true, w0, w1, Nat.ble]
  · rw [if_neg q, ← neg_fdiv (by omega) g.1, ← neg_fdiv (by omega) g.2.1, ← neg_fdiv (by omega) g.2.2.1, ← neg_fdiv (by omega) g.2.2.2]
    simp only [evT, evE, bnd, bndS, bndE, bndL, pk1, pk2, peek, peekL, datL, parK, forL, compL, wipeS, tst, truD, outB, outD, binD, cmpD, deq, deqL, pln, plnL, modD, addD, mulD, fdivD, powD, subD, bltD, bolsD, bindT, Option.bind, List.length_cons, List.length_nil, List.getElem?_cons_zero, List.getElem?_cons_succ, List.set, List.isEmpty, List.cons_append, List.nil_append, List.replicate, Nat.reduceSub, Option.map, Bool.not_false, Bool.not_true, Bool.false_eq_true, if_true, if_false, reduceIte, Bool.and_true, Bool.true_and, Bool.and_self, hx.sq, q, decide_false, w0, w1, Nat.ble]
theorem ev_ltidy {f : Nat} (h : Pr[f]? = some ⟨1, 5, 0, irLT⟩) {x : D} {a b c d : Int} (hx : Is4 x a b c d) (bx : Bd4 5000 a b c d) (h0 : fst4 a b c d ≠ 0) : callE L Pr (n + 1) f [.d x] S = some (.ok (tidV a b c d), S) := by
  rw [call_0 h rfl]
  show ends _ (evT L _ _ irLT [.d x, .un, .un, .un, .un] S) = _
  rw [lt_core hx bx h0 rfl fun r => rfl]
  exact ends_ret rfl
theorem ev_ltidyR {f : Nat} (h : Pr[f]? = some ⟨1, 5, 0, irLT⟩) {j : Nat} {x : D} {a b c d : Int} (hj : S[j]? = some (.live x)) (hx : Is4 x a b c d) (bx : Bd4 5000 a b c d) (h0 : fst4 a b c d ≠ 0) : callE L Pr (n + 1) f [.ref j] S = some (.ok (tidV a b c d), S.set j (.fz x)) := by
  rw [call_0 h rfl]
  show ends _ (evT L _ _ irLT [.ref j, .un, .un, .un, .un] S) = _
  have h2 : (S.set j (.fz x))[j]? = some (.fz x) := List.getElem?_set_self (List.getElem?_eq_some_iff.mp hj).1
  rw [lt_core (S' := S.set j (.fz x)) hx bx h0 (by simp only [evE, List.getElem?_cons_zero, hj]) fun r => by simp only [evE, List.getElem?_cons_zero, h2]]
  exact ends_ret (by simp)
end
end Cm

/-! the laws' own circle -/
namespace Cm
open PySem PySem.Spec PyProof.Rows L2
/-- one turn of a comprehension -/
def stepC (L : Lw) (c : Ce) (g : Tg) (d e : E) (fr : Fr) (x : D) (S : Sto) : Option (Option D × Sto) := match bindT g x fr with
  | some fr2 => (match evE L c d fr2 S with
    | some (.v (.d (.bl true)), S1) => (match evE L c e fr2 S1 with
      | some (.v (.d y), S2) => some (some y, S2)
      | _ => none)
    | some (.v (.d (.bl false)), S1) => some (none, S1)
    | _ => none)
  | none => none
theorem ev_comp {L : Lw} {c : Ce} {ws : List Nat} {g : Tg} {it d e : E} {fr : Fr} {S S1 : Sto} {x : D} {xs : List D} (hi : evE L c it fr S = some (.v (.d x), S1)) (hs : seqD x = some xs) (hl : xs.length ≤ 100000) : evE L c (.comp ws g it d e) fr S = compL (stepC L c g d e (wipeS fr ws)) xs [] S1 := by
  show bnd (evE L c it fr S) _ = _
  rw [hi]
  simp only [bnd, hs]
  rw [if_pos (Nat.ble_eq.mpr hl)]
  rfl
theorem comp_y {f : D → Sto → Option (Option D × Sto)} {x y : D} {xs acc : List D} {S S1 : Sto} (h : f x S = some (some y, S1)) : compL f (x :: xs) acc S = compL f xs (acc ++ [y]) S1 := by
  simp only [compL, h]
theorem comp_n {f : D → Sto → Option (Option D × Sto)} {x : D} {xs acc : List D} {S S1 : Sto} (h : f x S = some (none, S1)) : compL f (x :: xs) acc S = compL f xs acc S1 := by
  simp only [compL, h]
theorem comp_e {f : D → Sto → Option (Option D × Sto)} {acc : List D} {S : Sto} : compL f [] acc S = some (.v (.d (.lst acc)), S) := rfl
theorem asgM_of {L : Lw} {c : Ce} {b i k : Nat} {e : E} {fr : Fr} {S S1 : Sto} {xs : List D} (h : evE L c e fr S = some (.v (.d (.lst xs)), S1)) (h1 : Nat.blt (b + k) S1.length = true) (h2 : noref (b + k) (fr.set i .un) = true) : evT L c b (.asgM i k e) fr S = some (.nx, fr.set i (.ref (b + k)), S1.set (b + k) (.live (.lst xs))) := by
  show bndE fr (evE L c e fr S) _ = _
  rw [h]
  simp only [bndE, h1, h2, Bool.and_self, if_true]
theorem ite_t {L : Lw} {c : Ce} {b : Nat} {t : E} {x y : T} {fr : Fr} {S S1 : Sto} (h : evE L c t fr S = some (.v (.d (.bl true)), S1)) : evT L c b (.ite t x y) fr S = evT L c b x fr S1 := by
  simp only [evT, h]
theorem ite_f {L : Lw} {c : Ce} {b : Nat} {t : E} {x y : T} {fr : Fr} {S S1 : Sto} (h : evE L c t fr S = some (.v (.d (.bl false)), S1)) : evT L c b (.ite t x y) fr S = evT L c b y fr S1 := by
  simp only [evT, h]
theorem call_m {L : Lw} {Pr : List Fn} {n f p q m k : Nat} {bd : T} {as : List Sl} {fr : Fr} {S S1 : Sto} (h : Pr[f]? = some ⟨p, q, m, bd⟩) (hl : as.length = p) (hf : as ++ List.replicate (q - p) .un = fr) (hS : S ++ List.replicate m Cl.dead = S1) (hk : S.length = k) : callE L Pr (n + 1) f as S = ends k (evT L (callE L Pr n) k bd fr S1) := by
  subst hf hS hk
  exact call_s h hl
structure Ls (Pr : List Fn) (cl mx dw lp lt lk : Nat) : Prop where
  hcl : Pr[cl]? = some ⟨2, 2, 0, irCell⟩
  hmx : Pr[mx]? = some ⟨2, 3, 0, irMix cl⟩
  hdw : Pr[dw]? = some ⟨3, 3, 0, irDraw mx⟩
  hlp : Pr[lp]? = some ⟨2, 3, 0, irLP⟩
  hlt : Pr[lt]? = some ⟨1, 5, 0, irLT⟩
  hlk : Pr[lk]? = some ⟨2, 4, 1, irLK dw lp lt⟩
structure Le4 (m : Nat) (a b c d : Int) : Prop where
  a : a.natAbs ≤ m
  b : b.natAbs ≤ m
  c : c.natAbs ≤ m
  d : d.natAbs ≤ m
theorem Le4.bd {m : Nat} {a b c d : Int} (h : Le4 m a b c d) {k : Nat} (q : m < 2 ^ k) : Bd4 k a b c d := ⟨Nat.lt_of_le_of_lt h.a q, Nat.lt_of_le_of_lt h.b q, Nat.lt_of_le_of_lt h.c q, Nat.lt_of_le_of_lt h.d q⟩
/-- a small circle, told least -/
structure OkS (m : Nat) (a b c d : Int) : Prop where
  le : Le4 m a b c d
  pr : 0 < prV a b c d a b c d
  by1 : by4 a b c d = 1
theorem OkS.ok {m : Nat} {a b c d : Int} (h : OkS m a b c d) (q : m ≤ 1000000000) : OkC a b c d := by
  obtain ⟨⟨h1, h2, h3, h4⟩, p, b1⟩ := h
  exact ⟨inB_of (by omega) (by omega), inB_of (by omega) (by omega), inB_of (by omega) (by omega), inB_of (by omega) (by omega), p, b1⟩
theorem le_of_mul {k x : Int} {m : Nat} (hk : k ≠ 0) (h : (k * x).natAbs ≤ m) : x.natAbs ≤ m := by
  rw [Int.natAbs_mul] at h
  have : 1 * x.natAbs ≤ k.natAbs * x.natAbs := Nat.mul_le_mul_right _ (by omega)
  omega
/-- tidy makes of a small four with a product above zero a small circle -/
theorem tid_ok {m : Nat} {a b c d : Int} (h : Le4 m a b c d) (p : 0 < prV a b c d a b c d) : ∃ a' b' c' d' : Int, tidV a b c d = .tup [.int a', .int b', .int c', .int d'] ∧ OkS m a' b' c' d' := by
  obtain ⟨k, a', b', c', d', -, hk, rfl, rfl, rfl, rfl, e, e1⟩ := tid_split (fst4_ne p)
  refine ⟨a', b', c', d', e, ⟨le_of_mul hk h.a, le_of_mul hk h.b, le_of_mul hk h.c, le_of_mul hk h.d⟩, ?_, e1⟩
  rw [prV_mul] at p
  rcases Int.lt_trichotomy 0 (prV a' b' c' d' a' b' c' d') with z | z | z
  · exact z
  · rw [← z, Int.mul_zero] at p; omega
  · have : 0 < k * k := by
      rcases Int.lt_trichotomy 0 k with q | q | q
      · exact Int.mul_pos q q
      · exact absurd q.symm hk
      · exact Int.mul_pos_of_neg_of_neg q q
    have := Int.mul_neg_of_pos_of_neg this z
    omega
section
variable {L : Lw} {Pr : List Fn} {n : Nat}
variable {cl mx dw lp lt lk : Nat}
theorem ev_circle (B : Ls Pr cl mx dw lp lt lk) {ns : List Int} {xs : List D} (hx : xs.length < 800000) {R : Sto} : ∃ a b c d : Int, OkS 7 a b c d ∧ callE L Pr (n + 4) lk [.d (.scr ns), .ref 0] (.live (.lst xs) :: R) = some (.ok (.tup [.int a, .int b, .int c, .int d]), .live (.lst (xs ++ [.int 0, .int 0, .int 0, .int 0, .int 0])) :: R) := by
  have dr : ∀ (zs : List D) (v : Cl) (m : Int), 0 < m → zs.length < 900000 → ∃ z : Int, 0 ≤ z ∧ z < m ∧ callE L Pr (n + 3) dw [.d (.scr ns), .ref 0, .d (.int m)] (.live (.lst zs) :: (R ++ [v])) = some (.ok (.int z), .live (.lst (zs ++ [.int 0])) :: (R ++ [v])) := fun zs v m hm hz => by
    have z := @drawV_lt ns (zs.length + 1) m hm
    exact ⟨_, z.1, z.2, ev_draw B.hcl B.hmx B.hdw hm rfl hz⟩
  have gt : ∀ (u v : Cl), (u :: (R ++ [v]))[R.length + 1]? = some v := fun u v => by simp
  have st : ∀ (u v z : Cl), (u :: (R ++ [v])).set (R.length + 1) z = u :: (R ++ [z]) := fun u v z => by simp [List.set]
  have bl : ∀ (u v : Cl), Nat.blt (R.length + 1) (List.length (u :: (R ++ [v]))) = true := fun u v => Nat.blt_eq.mpr (by simp)
  obtain ⟨z1, p1, q1, e1⟩ := dr xs .dead 13 (by decide) (by omega)
  obtain ⟨z2, p2, q2, e2⟩ := dr (xs ++ [.int 0]) .dead 13 (by decide) (by simp; omega)
  obtain ⟨z3, p3, q3, e3⟩ := dr (xs ++ [.int 0] ++ [.int 0]) .dead 13 (by decide) (by simp; omega)
  obtain ⟨z4, p4, q4, e4⟩ := dr (xs ++ [.int 0] ++ [.int 0] ++ [.int 0]) .dead 13 (by decide) (by simp; omega)
  obtain ⟨z5, p5, q5, e5⟩ := dr (xs ++ [.int 0] ++ [.int 0] ++ [.int 0] ++ [.int 0]) (.live (.lst [.int (z1 - 6), .int (z2 - 6), .int (z3 - 6), .int (z4 - 6)])) 4 (by decide) (by simp; omega)
  have xe : xs ++ [D.int 0] ++ [.int 0] ++ [.int 0] ++ [.int 0] ++ [.int 0] = xs ++ [.int 0, .int 0, .int 0, .int 0, .int 0] := by simp
  rw [xe] at e5
  generalize xs ++ [D.int 0, .int 0, .int 0, .int 0, .int 0] = ys at e5
  have s1 : evT L (callE L Pr (n + 3)) (R.length + 1) (.asgM 2 0 (.comp [3] (.nm 3) (.rng1 (.lit (.int 4))) (.lit (.bl true)) (.bin .sub (.call dw (.cons (.arg 0) (.cons (.arg 1) (.cons (.lit (.int 13)) .nil)))) (.lit (.int 6))))) [.d (.scr ns), .ref 0, .un, .un] (.live (.lst xs) :: (R ++ [.dead])) = some (.nx, [.d (.scr ns), .ref 0, .ref (R.length + 1), .un], .live (.lst (xs ++ [.int 0] ++ [.int 0] ++ [.int 0] ++ [.int 0])) :: (R ++ [.live (.lst [.int (z1 - 6), .int (z2 - 6), .int (z3 - 6), .int (z4 - 6)])])) := by
    have stp : ∀ {z k : Int} {T1 T2 : Sto}, callE L Pr (n + 3) dw [.d (.scr ns), .ref 0, .d (.int 13)] T1 = some (.ok (.int z), T2) → stepC L (callE L Pr (n + 3)) (.nm 3) (.lit (.bl true)) (.bin .sub (.call dw (.cons (.arg 0) (.cons (.arg 1) (.cons (.lit (.int 13)) .nil)))) (.lit (.int 6))) [.d (.scr ns), .ref 0, .un, .un] (.int k) T1 = some (some (.int (z - 6)), T2) := fun {z k T1 T2} h => by
      simp only [stepC, evT, evE, bnd, bndS, bndE, bndL, pk1, pk2, peek, peekL, datL, parK, forL, compL, seqD, wipeS, tst, truD, outB, outD, binD, cmpD, deq, deqL, pln, plnL, modD, addD, mulD, fdivD, powD, subD, bltD, bolsD, itemD, bindT, Option.bind, List.length_cons, List.length_nil, List.getElem?_cons_zero, List.getElem?_cons_succ, List.set, List.isEmpty, List.cons_append, List.nil_append, List.replicate, Nat.reduceSub, Option.map, Bool.not_false, Bool.not_true, Bool.false_eq_true, if_true, if_false, reduceIte, Bool.and_true, Bool.true_and, Bool.and_self, h]
    have r : rngL 0 4 = [.int (0 + (0 : Nat)), .int (0 + (1 : Nat)), .int (0 + (2 : Nat)), .int (0 + (3 : Nat))] := rfl
    have m4 : mid 4 = true := by decide
    have nr : ∀ k, noref (k + 1) [.d (.scr ns), .ref 0, .un, .un] = true := fun k => rfl
    have cm : evE L (callE L Pr (n + 3)) (.comp [3] (.nm 3) (.rng1 (.lit (.int 4))) (.lit (.bl true)) (.bin .sub (.call dw (.cons (.arg 0) (.cons (.arg 1) (.cons (.lit (.int 13)) .nil)))) (.lit (.int 6)))) [.d (.scr ns), .ref 0, .un, .un] (.live (.lst xs) :: (R ++ [.dead])) = some (.v (.d (.lst [.int (z1 - 6), .int (z2 - 6), .int (z3 - 6), .int (z4 - 6)])), .live (.lst (xs ++ [.int 0] ++ [.int 0] ++ [.int 0] ++ [.int 0])) :: (R ++ [.dead])) := by
      rw [ev_comp (x := .lst (rngL 0 4)) (xs := rngL 0 4) (S1 := .live (.lst xs) :: (R ++ [.dead])) rfl rfl (by decide), r]
      show compL (stepC L (callE L Pr (n + 3)) (.nm 3) (.lit (.bl true)) (.bin .sub (.call dw (.cons (.arg 0) (.cons (.arg 1) (.cons (.lit (.int 13)) .nil)))) (.lit (.int 6))) [.d (.scr ns), .ref 0, .un, .un]) _ [] _ = _
      rw [comp_y (stp e1), comp_y (stp e2), comp_y (stp e3), comp_y (stp e4), comp_e]
      rfl
    rw [asgM_of (b := R.length + 1) (i := 2) (k := 0) cm (bl _ _) (nr R.length), Nat.add_zero, st]
    rfl
  have fin : ∀ (a b c d : Int), Le4 7 a b c d → 0 < prV a b c d a b c d → ∃ a' b' c' d' : Int, OkS 7 a' b' c' d' ∧ ends (List.length (Cl.live (.lst xs) :: R)) (evT L (callE L Pr (n + 3)) (R.length + 1) (.ret (.call lt (.cons (.arg 2) .nil))) [.d (.scr ns), .ref 0, .ref (R.length + 1), .un] (.live (.lst ys) :: (R ++ [.live (.lst [.int a, .int b, .int c, .int d])]))) = some (.ok (.tup [.int a', .int b', .int c', .int d']), .live (.lst ys) :: R) := fun a b c d hl hp => by
    obtain ⟨a', b', c', d', e, ok⟩ := tid_ok hl hp
    have t := ev_ltidyR (L := L) (Pr := Pr) (n := n + 2) B.hlt (gt (.live (.lst ys)) (.live (.lst [.int a, .int b, .int c, .int d]))) is4L ((hl.bd (k := 3) (by decide)).mono (by decide)) (fst4_ne hp)
    rw [st, e] at t
    refine ⟨a', b', c', d', ok, ?_⟩
    simp only [evT, evE, bnd, bndS, bndE, bndL, pk1, pk2, peek, peekL, datL, parK, forL, compL, seqD, wipeS, tst, truD, outB, outD, binD, cmpD, deq, deqL, pln, plnL, modD, addD, mulD, fdivD, powD, subD, bltD, bolsD, itemD, bindT, Option.bind, List.length_cons, List.length_nil, List.getElem?_cons_zero, List.getElem?_cons_succ, List.set, List.isEmpty, List.cons_append, List.nil_append, List.replicate, Nat.reduceSub, Option.map, Bool.not_false, Bool.not_true, Bool.false_eq_true, if_true, if_false, reduceIte, Bool.and_true, Bool.true_and, Bool.and_self, t]
    simp [ends]
  have lpr : ∀ (a b c d : Int), Le4 7 a b c d → callE L Pr (n + 3) lp [.ref (R.length + 1), .ref (R.length + 1)] (.live (.lst ys) :: (R ++ [.live (.lst [.int a, .int b, .int c, .int d])])) = some (.ok (.int (prV a b c d a b c d)), .live (.lst ys) :: (R ++ [.live (.lst [.int a, .int b, .int c, .int d])])) := fun a b c d hl =>
    ev_lproduct B.hlp (Sh.ref (gt _ _)) (Sh.ref (gt _ _)) is4L is4L ((hl.bd (k := 3) (by decide)).mono (by decide)) ((hl.bd (k := 3) (by decide)).mono (by decide))
  have mid3 : ∀ (a b c d : Int), Le4 6 a b c d → ∃ a' b' c' d' : Int, OkS 7 a' b' c' d' ∧ ends (List.length (Cl.live (.lst xs) :: R)) (evT L (callE L Pr (n + 3)) (R.length + 1) (.seq (.ite (.cmp .le (.call lp (.cons (.arg 2) (.cons (.arg 2) .nil))) (.lit (.int 0))) (.asgM 2 0 (.lst (.cons (.lit (.int 1)) (.cons (.idx (.arg 2) (.lit (.int 1))) (.cons (.idx (.arg 2) (.lit (.int 2))) (.cons (.bin .sub (.bin .sub (.lit (.int 0)) (.lit (.int 1))) (.blt .abs (.cons (.idx (.arg 2) (.lit (.int 3))) .nil))) .nil)))))) .nop) (.ret (.call lt (.cons (.arg 2) .nil)))) [.d (.scr ns), .ref 0, .ref (R.length + 1), .un] (.live (.lst ys) :: (R ++ [.live (.lst [.int a, .int b, .int c, .int d])]))) = some (.ok (.tup [.int a', .int b', .int c', .int d']), .live (.lst ys) :: R) := fun a b c d hl => by
    have hl7 : Le4 7 a b c d := ⟨by have := hl.a; omega, by have := hl.b; omega, by have := hl.c; omega, by have := hl.d; omega⟩
    have lq := lpr a b c d hl7
    by_cases q : 0 < prV a b c d a b c d
    · obtain ⟨a', b', c', d', ok, e⟩ := fin a b c d hl7 q
      refine ⟨a', b', c', d', ok, ?_⟩
      have dq : decide (prV a b c d a b c d ≤ 0) = false := decide_eq_false (by omega)
      rw [seq_nx (fr1 := [.d (.scr ns), .ref 0, .ref (R.length + 1), .un]) (S1 := .live (.lst ys) :: (R ++ [.live (.lst [.int a, .int b, .int c, .int d])])) (by
        have ts : evE L (callE L Pr (n + 3)) (.cmp .le (.call lp (.cons (.arg 2) (.cons (.arg 2) .nil))) (.lit (.int 0))) [.d (.scr ns), .ref 0, .ref (R.length + 1), .un] (.live (.lst ys) :: (R ++ [.live (.lst [.int a, .int b, .int c, .int d])])) = some (.v (.d (.bl false)), .live (.lst ys) :: (R ++ [.live (.lst [.int a, .int b, .int c, .int d])])) := by
          simp only [evT, evE, bnd, bndS, bndE, bndL, pk1, pk2, peek, peekL, datL, parK, forL, compL, seqD, wipeS, tst, truD, outB, outD, binD, cmpD, deq, deqL, pln, plnL, modD, addD, mulD, fdivD, powD, subD, bltD, bolsD, itemD, bindT, Option.bind, List.length_cons, List.length_nil, List.getElem?_cons_zero, List.getElem?_cons_succ, List.set, List.isEmpty, List.cons_append, List.nil_append, List.replicate, Nat.reduceSub, Option.map, Bool.not_false, Bool.not_true, Bool.false_eq_true, if_true, if_false, reduceIte, Bool.and_true, Bool.true_and, Bool.and_self, lq, dq]
        rw [ite_f ts]
        rfl)]
      exact e
    · have hd : (if d < 0 then -d else d).natAbs = d.natAbs ∧ 0 ≤ (if d < 0 then -d else d) := by split <;> omega
      generalize hdd : (if d < 0 then -d else d) = dd at hd
      have l8 : Le4 7 1 b c (0 - 1 - dd) := ⟨by decide, by have := hl.b; omega, by have := hl.c; omega, by have := hl.d; omega⟩
      have p8 : 0 < prV 1 b c (0 - 1 - dd) 1 b c (0 - 1 - dd) := by
        have s1 : 0 ≤ b * b := by
          rcases Int.le_total 0 b with z | z
          · exact Int.mul_nonneg z z
          · exact Int.mul_nonneg_of_nonpos_of_nonpos z z
        have s2 : 0 ≤ c * c := by
          rcases Int.le_total 0 c with z | z
          · exact Int.mul_nonneg z z
          · exact Int.mul_nonneg_of_nonpos_of_nonpos z z
        unfold prV
        omega
      obtain ⟨a', b', c', d', ok, e⟩ := fin 1 b c (0 - 1 - dd) l8 p8
      refine ⟨a', b', c', d', ok, ?_⟩
      have dq : decide (prV a b c d a b c d ≤ 0) = true := decide_eq_true (by omega)
      have i1 : itemD (.lst [.int a, .int b, .int c, .int d]) 1 = some (.int b) := rfl
      have i2 : itemD (.lst [.int a, .int b, .int c, .int d]) 2 = some (.int c) := rfl
      have i3 : itemD (.lst [.int a, .int b, .int c, .int d]) 3 = some (.int d) := rfl
      have nr : ∀ k, noref (k + 1) [.d (.scr ns), .ref 0, .un, .un] = true := fun k => rfl
      rw [seq_nx (fr1 := [.d (.scr ns), .ref 0, .ref (R.length + 1), .un]) (S1 := .live (.lst ys) :: (R ++ [.live (.lst [.int 1, .int b, .int c, .int (0 - 1 - dd)])])) (by
        have as : evE L (callE L Pr (n + 3)) (.lst (.cons (.lit (.int 1)) (.cons (.idx (.arg 2) (.lit (.int 1))) (.cons (.idx (.arg 2) (.lit (.int 2))) (.cons (.bin .sub (.bin .sub (.lit (.int 0)) (.lit (.int 1))) (.blt .abs (.cons (.idx (.arg 2) (.lit (.int 3))) .nil))) .nil))))) [.d (.scr ns), .ref 0, .ref (R.length + 1), .un] (.live (.lst ys) :: (R ++ [.live (.lst [.int a, .int b, .int c, .int d])])) = some (.v (.d (.lst [.int 1, .int b, .int c, .int (0 - 1 - dd)])), .live (.lst ys) :: (R ++ [.live (.lst [.int a, .int b, .int c, .int d])])) := by
          have pk : peek (.live (.lst ys) :: (R ++ [.live (.lst [.int a, .int b, .int c, .int d])])) (.ref (R.length + 1)) = some (.lst [.int a, .int b, .int c, .int d]) := (Sh.ref (gt _ _)).1
          have pi : ∀ (T : Sto) (z : D), peek T (.d z) = some z := fun T z => rfl
          simp only [evT, evE, bnd, bndS, bndE, bndL, pk1, pk2, peekL, datL, parK, forL, compL, wipeS, tst, truD, outB, outD, binD, cmpD, deq, deqL, pln, plnL, modD, addD, mulD, fdivD, powD, subD, bltD, bolsD, bindT, Option.bind, List.length_cons, List.length_nil, List.getElem?_cons_zero, List.getElem?_cons_succ, List.set, List.isEmpty, List.cons_append, List.nil_append, List.replicate, Nat.reduceSub, Option.map, Bool.not_false, Bool.not_true, Bool.false_eq_true, if_true, if_false, reduceIte, Bool.and_true, Bool.true_and, Bool.and_self, pi, pk, i1, i2, i3, hdd, Nat.ble]
        have ts : evE L (callE L Pr (n + 3)) (.cmp .le (.call lp (.cons (.arg 2) (.cons (.arg 2) .nil))) (.lit (.int 0))) [.d (.scr ns), .ref 0, .ref (R.length + 1), .un] (.live (.lst ys) :: (R ++ [.live (.lst [.int a, .int b, .int c, .int d])])) = some (.v (.d (.bl true)), .live (.lst ys) :: (R ++ [.live (.lst [.int a, .int b, .int c, .int d])])) := by
          simp only [evT, evE, bnd, bndS, bndE, bndL, pk1, pk2, peek, peekL, datL, parK, forL, compL, seqD, wipeS, tst, truD, outB, outD, binD, cmpD, deq, deqL, pln, plnL, modD, addD, mulD, fdivD, powD, subD, bltD, bolsD, itemD, bindT, Option.bind, List.length_cons, List.length_nil, List.getElem?_cons_zero, List.getElem?_cons_succ, List.set, List.isEmpty, List.cons_append, List.nil_append, List.replicate, Nat.reduceSub, Option.map, Bool.not_false, Bool.not_true, Bool.false_eq_true, if_true, if_false, reduceIte, Bool.and_true, Bool.true_and, Bool.and_self, lq, dq]
        rw [ite_t ts, asgM_of (b := R.length + 1) (i := 2) (k := 0) as (bl _ _) (nr R.length), Nat.add_zero, st]
        rfl)]
      exact e
  have hl6 : Le4 6 (z1 - 6) (z2 - 6) (z3 - 6) (z4 - 6) := ⟨by omega, by omega, by omega, by omega⟩
  have b1 : List.length (Cl.live (.lst xs) :: R) = R.length + 1 := rfl
  by_cases q : z5 = 0
  · have hl : Le4 6 0 (z2 - 6) (z3 - 6) (z4 - 6) := ⟨by decide, hl6.b, hl6.c, hl6.d⟩
    obtain ⟨a', b', c', d', ok, e⟩ := mid3 _ _ _ _ hl
    refine ⟨a', b', c', d', ok, ?_⟩
    rw [call_m (fr := [.d (.scr ns), .ref 0, .un, .un]) (S1 := .live (.lst xs) :: (R ++ [.dead])) (k := R.length + 1) B.hlk rfl rfl rfl rfl]
    have i0 : ixN 4 0 = some 0 := rfl
    subst q
    unfold irLK
    rw [seq_nx s1, seq_nx (fr1 := [.d (.scr ns), .ref 0, .ref (R.length + 1), .un]) (S1 := .live (.lst ys) :: (R ++ [.live (.lst [.int 0, .int (z2 - 6), .int (z3 - 6), .int (z4 - 6)])])) (by
      have ts : evE L (callE L Pr (n + 3)) (.cmp .eq (.call dw (.cons (.arg 0) (.cons (.arg 1) (.cons (.lit (.int 4)) .nil)))) (.lit (.int 0))) [.d (.scr ns), .ref 0, .ref (R.length + 1), .un] (.live (.lst (xs ++ [.int 0] ++ [.int 0] ++ [.int 0] ++ [.int 0])) :: (R ++ [.live (.lst [.int (z1 - 6), .int (z2 - 6), .int (z3 - 6), .int (z4 - 6)])])) = some (.v (.d (.bl true)), .live (.lst ys) :: (R ++ [.live (.lst [.int (z1 - 6), .int (z2 - 6), .int (z3 - 6), .int (z4 - 6)])])) := by
        simp only [evT, evE, bnd, bndS, bndE, bndL, pk1, pk2, peek, peekL, datL, parK, forL, compL, seqD, wipeS, tst, truD, outB, outD, binD, cmpD, deq, deqL, pln, plnL, modD, addD, mulD, fdivD, powD, subD, bltD, bolsD, itemD, bindT, Option.bind, List.length_cons, List.length_nil, List.getElem?_cons_zero, List.getElem?_cons_succ, List.set, List.isEmpty, List.cons_append, List.nil_append, List.replicate, Nat.reduceSub, Option.map, Bool.not_false, Bool.not_true, Bool.false_eq_true, if_true, if_false, reduceIte, Bool.and_true, Bool.true_and, Bool.and_self, e5, BEq.rfl]
      rw [ite_t ts]
      show setK [.d (.scr ns), .ref 0, .ref (R.length + 1), .un] (.d (.int 0)) (.ref (R.length + 1)) (.d (.int 0)) _ = _
      show (match (Cl.live (.lst ys) :: (R ++ [Cl.live (.lst [.int (z1 - 6), .int (z2 - 6), .int (z3 - 6), .int (z4 - 6)])]))[R.length + 1]? with
        | some (.live (.lst xs)) => (match ixN xs.length 0 with
          | some m => some (Rr.nx, [Sl.d (.scr ns), .ref 0, .ref (R.length + 1), .un], (Cl.live (.lst ys) :: (R ++ [Cl.live (.lst [.int (z1 - 6), .int (z2 - 6), .int (z3 - 6), .int (z4 - 6)])])).set (R.length + 1) (.live (.lst (xs.set m (.int 0)))))
          | none => none)
        | _ => none) = _
      rw [gt]
      show some (Rr.nx, _, (Cl.live (.lst ys) :: (R ++ [Cl.live (.lst [.int (z1 - 6), .int (z2 - 6), .int (z3 - 6), .int (z4 - 6)])])).set (R.length + 1) (.live (.lst [.int 0, .int (z2 - 6), .int (z3 - 6), .int (z4 - 6)]))) = _
      rw [st])]
    exact e
  · obtain ⟨a', b', c', d', ok, e⟩ := mid3 _ _ _ _ hl6
    refine ⟨a', b', c', d', ok, ?_⟩
    rw [call_m (fr := [.d (.scr ns), .ref 0, .un, .un]) (S1 := .live (.lst xs) :: (R ++ [.dead])) (k := R.length + 1) B.hlk rfl rfl rfl rfl]
    have q2 : (z5 == 0) = false := beq_eq_false_iff_ne.mpr q
    unfold irLK
    rw [seq_nx s1, seq_nx (fr1 := [.d (.scr ns), .ref 0, .ref (R.length + 1), .un]) (S1 := .live (.lst ys) :: (R ++ [.live (.lst [.int (z1 - 6), .int (z2 - 6), .int (z3 - 6), .int (z4 - 6)])])) (by
      have ts : evE L (callE L Pr (n + 3)) (.cmp .eq (.call dw (.cons (.arg 0) (.cons (.arg 1) (.cons (.lit (.int 4)) .nil)))) (.lit (.int 0))) [.d (.scr ns), .ref 0, .ref (R.length + 1), .un] (.live (.lst (xs ++ [.int 0] ++ [.int 0] ++ [.int 0] ++ [.int 0])) :: (R ++ [.live (.lst [.int (z1 - 6), .int (z2 - 6), .int (z3 - 6), .int (z4 - 6)])])) = some (.v (.d (.bl false)), .live (.lst ys) :: (R ++ [.live (.lst [.int (z1 - 6), .int (z2 - 6), .int (z3 - 6), .int (z4 - 6)])])) := by
        simp only [evT, evE, bnd, bndS, bndE, bndL, pk1, pk2, peek, peekL, datL, parK, forL, compL, seqD, wipeS, tst, truD, outB, outD, binD, cmpD, deq, deqL, pln, plnL, modD, addD, mulD, fdivD, powD, subD, bltD, bolsD, itemD, bindT, Option.bind, List.length_cons, List.length_nil, List.getElem?_cons_zero, List.getElem?_cons_succ, List.set, List.isEmpty, List.cons_append, List.nil_append, List.replicate, Nat.reduceSub, Option.map, Bool.not_false, Bool.not_true, Bool.false_eq_true, if_true, if_false, reduceIte, Bool.and_true, Bool.true_and, Bool.and_self, e5, q2]
      rw [ite_f ts]
      rfl)]
    exact e
end
end Cm

/-! steps for simp: each waits for one answer, no function under a match -/
namespace Cm
open PySem PySem.Spec PyProof.Rows L2
section
variable {L : Lw} {c : Ce} {b i j k m n f : Nat} {a d e a1 a2 a3 : E} {fr fr1 : Fr} {S S1 S2 : Sto} {s t u : Sl} {x y z : D} {xs acc : List D} {l : List Sl} {ws : List Nat} {g : Tg} {r q : T} {o o2 : Co} {p : Bool} {bo : Bo} {fb : Bf}
def kVr (S : Sto) (j : Nat) : Option Cl → Option (Xr × Sto)
  | some (.live x) => some (.v (.d x), S.set j (.fz x))
  | some (.fz x) => some (.v (.d x), S)
  | _ => none
def kV (S : Sto) : Option Sl → Option (Xr × Sto)
  | some (.d x) => some (.v (.d x), S)
  | some (.ref j) => kVr S j S[j]?
  | _ => none
theorem e_var : evE L c (.var i) fr S = kV S fr[i]? := by
  cases h : fr[i]? with
  | none => simp [evE, h, kV]
  | some s => cases s <;> simp [evE, h, kV]
              rename_i j
              cases h2 : S[j]? with
              | none => simp [kVr]
              | some w => cases w <;> simp [kVr]
theorem kV_d : kV S (some (.d x)) = some (.v (.d x), S) := rfl
theorem kV_r : kV S (some (.ref j)) = kVr S j S[j]? := rfl
theorem kVr_l : kVr S j (some (.live x)) = some (.v (.d x), S.set j (.fz x)) := rfl
theorem kVr_f : kVr S j (some (.fz x)) = some (.v (.d x), S) := rfl
def kA (S : Sto) : Option Sl → Option (Xr × Sto)
  | some (.d x) => some (.v (.d x), S)
  | some (.ref j) => some (.v (.ref j), S)
  | _ => none
theorem e_arg : evE L c (.arg i) fr S = kA S fr[i]? := by
  cases h : fr[i]? with
  | none => simp [evE, h, kA]
  | some s => cases s <;> simp [evE, h, kA]
theorem kA_d : kA S (some (.d x)) = some (.v (.d x), S) := rfl
theorem kA_r : kA S (some (.ref j)) = some (.v (.ref j), S) := rfl
theorem e_lit : evE L c (.lit x) fr S = some (.v (.d x), S) := rfl
theorem pk_d : peek S (.d x) = some x := rfl
def kPr : Option Cl → Option D
  | some (.live x) => some x
  | some (.fz x) => some x
  | _ => none
theorem pk_r : peek S (.ref j) = kPr S[j]? := by
  cases h : S[j]? with
  | none => simp [peek, h, kPr]
  | some w => cases w <;> simp [peek, h, kPr]
theorem kPr_l : kPr (some (.live x)) = some x := rfl
theorem kPr_f : kPr (some (.fz x)) = some x := rfl
theorem outD_s : outD S (some x) = some (.v (.d x), S) := rfl
theorem outB_s : outB S (some p) = some (.v (.d (.bl p)), S) := rfl
def kBin3 (o : Bo) (S : Sto) : Option D → Option D → Option (Xr × Sto)
  | some x, some y => outD S (binD o x y)
  | _, _ => none
def kBin2 (o : Bo) (s : Sl) : Option (Xr × Sto) → Option (Xr × Sto)
  | some (.v t, S2) => kBin3 o S2 (peek S2 s) (peek S2 t)
  | some (.rz n, S2) => some (.rz n, S2)
  | _ => none
def kBin1 (L : Lw) (c : Ce) (o : Bo) (d : E) (fr : Fr) : Option (Xr × Sto) → Option (Xr × Sto)
  | some (.v s, S1) => kBin2 o s (evE L c d fr S1)
  | some (.rz n, S1) => some (.rz n, S1)
  | _ => none
theorem e_bin : evE L c (.bin bo a d) fr S = kBin1 L c bo d fr (evE L c a fr S) := by
  show bnd (evE L c a fr S) _ = _
  rcases evE L c a fr S with _ | ⟨_ | _ | _, S1⟩ <;> try rfl
  rename_i s
  show bnd (evE L c d fr S1) _ = kBin2 bo s (evE L c d fr S1)
  rcases evE L c d fr S1 with _ | ⟨_ | _ | _, S2⟩ <;> try rfl
  rename_i t
  show pk2 S2 s t _ = kBin3 bo S2 (peek S2 s) (peek S2 t)
  unfold pk2 pk1
  cases peek S2 s <;> cases peek S2 t <;> rfl
theorem kBin1_v : kBin1 L c bo d fr (some (.v s, S)) = kBin2 bo s (evE L c d fr S) := rfl
theorem kBin1_r : kBin1 L c bo d fr (some (.rz n, S)) = some (.rz n, S) := rfl
theorem kBin2_v : kBin2 bo s (some (.v t, S)) = kBin3 bo S (peek S s) (peek S t) := rfl
theorem kBin2_r : kBin2 bo s (some (.rz n, S)) = some (.rz n, S) := rfl
theorem kBin3_s : kBin3 bo S (some x) (some y) = outD S (binD bo x y) := rfl
def kCmp3 (o : Co) (S : Sto) : Option D → Option D → Option (Xr × Sto)
  | some x, some y => outB S (cmpD o x y)
  | _, _ => none
def kCmp2 (o : Co) (s : Sl) : Option (Xr × Sto) → Option (Xr × Sto)
  | some (.v t, S2) => kCmp3 o S2 (peek S2 s) (peek S2 t)
  | some (.rz n, S2) => some (.rz n, S2)
  | _ => none
def kCmp1 (L : Lw) (c : Ce) (o : Co) (d : E) (fr : Fr) : Option (Xr × Sto) → Option (Xr × Sto)
  | some (.v s, S1) => kCmp2 o s (evE L c d fr S1)
  | some (.rz n, S1) => some (.rz n, S1)
  | _ => none
theorem e_cmp : evE L c (.cmp o a d) fr S = kCmp1 L c o d fr (evE L c a fr S) := by
  show bnd (evE L c a fr S) _ = _
  rcases evE L c a fr S with _ | ⟨_ | _ | _, S1⟩ <;> try rfl
  rename_i s
  show bnd (evE L c d fr S1) _ = kCmp2 o s (evE L c d fr S1)
  rcases evE L c d fr S1 with _ | ⟨_ | _ | _, S2⟩ <;> try rfl
  rename_i t
  show pk2 S2 s t _ = kCmp3 o S2 (peek S2 s) (peek S2 t)
  unfold pk2 pk1
  cases peek S2 s <;> cases peek S2 t <;> rfl
theorem kCmp1_v : kCmp1 L c o d fr (some (.v s, S)) = kCmp2 o s (evE L c d fr S) := rfl
theorem kCmp1_r : kCmp1 L c o d fr (some (.rz n, S)) = some (.rz n, S) := rfl
theorem kCmp2_v : kCmp2 o s (some (.v t, S)) = kCmp3 o S (peek S s) (peek S t) := rfl
theorem kCmp2_r : kCmp2 o s (some (.rz n, S)) = some (.rz n, S) := rfl
theorem kCmp3_s : kCmp3 o S (some x) (some y) = outB S (cmpD o x y) := rfl
def kIdx3 (S : Sto) : Option D → Option D → Option (Xr × Sto)
  | some x, some (.int i) => outD S (itemD x i)
  | _, _ => none
def kIdx2  (s : Sl) : Option (Xr × Sto) → Option (Xr × Sto)
  | some (.v t, S2) => kIdx3  S2 (peek S2 s) (peek S2 t)
  | some (.rz n, S2) => some (.rz n, S2)
  | _ => none
def kIdx1 (L : Lw) (c : Ce) (d : E) (fr : Fr) : Option (Xr × Sto) → Option (Xr × Sto)
  | some (.v s, S1) => kIdx2 s (evE L c d fr S1)
  | some (.rz n, S1) => some (.rz n, S1)
  | _ => none
theorem e_idx : evE L c (.idx a d) fr S = kIdx1 L c d fr (evE L c a fr S) := by
  show bnd (evE L c a fr S) _ = _
  rcases evE L c a fr S with _ | ⟨_ | _ | _, S1⟩ <;> try rfl
  rename_i s
  show bnd (evE L c d fr S1) _ = kIdx2 s (evE L c d fr S1)
  rcases evE L c d fr S1 with _ | ⟨_ | _ | _, S2⟩ <;> try rfl
  rename_i t
  show pk2 S2 s t _ = kIdx3 S2 (peek S2 s) (peek S2 t)
  unfold pk2 pk1
  cases peek S2 s <;> cases peek S2 t <;> try rfl
  rename_i x y
  cases y <;> rfl
theorem kIdx1_v : kIdx1 L c d fr (some (.v s, S)) = kIdx2 s (evE L c d fr S) := rfl
theorem kIdx1_r : kIdx1 L c d fr (some (.rz n, S)) = some (.rz n, S) := rfl
theorem kIdx2_v : kIdx2 s (some (.v t, S)) = kIdx3 S (peek S s) (peek S t) := rfl
theorem kIdx2_r : kIdx2 s (some (.rz n, S)) = some (.rz n, S) := rfl
theorem kIdx3_s {w : Int} : kIdx3 S (some x) (some (.int w)) = outD S (itemD x w) := rfl
def kNeg2 (S : Sto) : Option D → Option (Xr × Sto)
  | some x => outD S (match x with | .int i => some (.int (-i)) | _ => none)
  | none => none
def kNeg1 : Option (Xr × Sto) → Option (Xr × Sto)
  | some (.v s, S) => kNeg2 S (peek S s)
  | some (.rz n, S) => some (.rz n, S)
  | _ => none
theorem e_neg : evE L c (.neg a) fr S = kNeg1 (evE L c a fr S) := by
  show bnd (evE L c a fr S) _ = _
  rcases evE L c a fr S with _ | ⟨_ | _ | _, S1⟩ <;> try rfl
theorem kNeg1_v : kNeg1 (some (.v s, S)) = kNeg2 S (peek S s) := rfl
theorem kNeg1_r : kNeg1 (some (.rz n, S)) = some (.rz n, S) := rfl
def kTru2 (S : Sto) : Option D → Option (Xr × Sto)
  | some x => outB S (truD x)
  | none => none
def kTru1 : Option (Xr × Sto) → Option (Xr × Sto)
  | some (.v s, S) => kTru2 S (peek S s)
  | some (.rz n, S) => some (.rz n, S)
  | _ => none
theorem e_tru : evE L c (.tru a) fr S = kTru1 (evE L c a fr S) := by
  show bnd (evE L c a fr S) _ = _
  rcases evE L c a fr S with _ | ⟨_ | _ | _, S1⟩ <;> try rfl
theorem kTru1_v : kTru1 (some (.v s, S)) = kTru2 S (peek S s) := rfl
theorem kTru1_r : kTru1 (some (.rz n, S)) = some (.rz n, S) := rfl
theorem kNeg2_s {w : Int} : kNeg2 S (some (.int w)) = some (.v (.d (.int (-w))), S) := rfl
theorem kTru2_s : kTru2 S (some x) = outB S (truD x) := rfl
def kIsc2 (y : D) (p : Bool) (S : Sto) : Option D → Option (Xr × Sto)
  | some x => outB S ((iscD x y).map fun b => if p then b else !b)
  | none => none
def kIsc1 (y : D) (p : Bool) : Option (Xr × Sto) → Option (Xr × Sto)
  | some (.v s, S) => kIsc2 y p S (peek S s)
  | some (.rz n, S) => some (.rz n, S)
  | _ => none
theorem e_isc : evE L c (.isc a y p) fr S = kIsc1 y p (evE L c a fr S) := by
  show bnd (evE L c a fr S) _ = _
  rcases evE L c a fr S with _ | ⟨_ | _ | _, S1⟩ <;> try rfl
theorem kIsc1_v : kIsc1 y p (some (.v s, S)) = kIsc2 y p S (peek S s) := rfl
theorem kIsc1_r : kIsc1 y p (some (.rz n, S)) = some (.rz n, S) := rfl
theorem kIsc2_s : kIsc2 y p S (some x) = outB S ((iscD x y).map fun b => if p then b else !b) := rfl
def kAnd (L : Lw) (c : Ce) (d : E) (fr : Fr) : Option (Xr × Sto) → Option (Xr × Sto)
  | some (.v (.d (.bl true)), S) => evE L c d fr S
  | some (.v (.d (.bl false)), S) => some (.v (.d (.bl false)), S)
  | some (.rz n, S) => some (.rz n, S)
  | _ => none
theorem e_and : evE L c (.and a d) fr S = kAnd L c d fr (evE L c a fr S) := by
  show tst (evE L c a fr S) _ = _
  rcases evE L c a fr S with _ | ⟨_ | _ | _, S1⟩ <;> try rfl
  rename_i s
  cases s <;> try rfl
  rename_i x
  cases x <;> try rfl
  rename_i bb
  cases bb <;> rfl
theorem kAnd_t : kAnd L c d fr (some (.v (.d (.bl true)), S)) = evE L c d fr S := rfl
theorem kAnd_f : kAnd L c d fr (some (.v (.d (.bl false)), S)) = some (.v (.d (.bl false)), S) := rfl
theorem kAnd_r : kAnd L c d fr (some (.rz n, S)) = some (.rz n, S) := rfl
def kOr (L : Lw) (c : Ce) (d : E) (fr : Fr) : Option (Xr × Sto) → Option (Xr × Sto)
  | some (.v (.d (.bl true)), S) => some (.v (.d (.bl true)), S)
  | some (.v (.d (.bl false)), S) => evE L c d fr S
  | some (.rz n, S) => some (.rz n, S)
  | _ => none
theorem e_or : evE L c (.or a d) fr S = kOr L c d fr (evE L c a fr S) := by
  show tst (evE L c a fr S) _ = _
  rcases evE L c a fr S with _ | ⟨_ | _ | _, S1⟩ <;> try rfl
  rename_i s
  cases s <;> try rfl
  rename_i x
  cases x <;> try rfl
  rename_i bb
  cases bb <;> rfl
theorem kOr_t : kOr L c d fr (some (.v (.d (.bl true)), S)) = some (.v (.d (.bl true)), S) := rfl
theorem kOr_f : kOr L c d fr (some (.v (.d (.bl false)), S)) = evE L c d fr S := rfl
theorem kOr_r : kOr L c d fr (some (.rz n, S)) = some (.rz n, S) := rfl
def kNot (L : Lw) (c : Ce)  (fr : Fr) : Option (Xr × Sto) → Option (Xr × Sto)
  | some (.v (.d (.bl true)), S) => some (.v (.d (.bl false)), S)
  | some (.v (.d (.bl false)), S) => some (.v (.d (.bl true)), S)
  | some (.rz n, S) => some (.rz n, S)
  | _ => none
theorem e_not : evE L c (.not a) fr S = kNot L c  fr (evE L c a fr S) := by
  show tst (evE L c a fr S) _ = _
  rcases evE L c a fr S with _ | ⟨_ | _ | _, S1⟩ <;> try rfl
  rename_i s
  cases s <;> try rfl
  rename_i x
  cases x <;> try rfl
  rename_i bb
  cases bb <;> rfl
theorem kNot_t : kNot L c  fr (some (.v (.d (.bl true)), S)) = some (.v (.d (.bl false)), S) := rfl
theorem kNot_f : kNot L c  fr (some (.v (.d (.bl false)), S)) = some (.v (.d (.bl true)), S) := rfl
theorem kNot_r : kNot L c  fr (some (.rz n, S)) = some (.rz n, S) := rfl
def kIfx (L : Lw) (c : Ce) (d e : E) (fr : Fr) : Option (Xr × Sto) → Option (Xr × Sto)
  | some (.v (.d (.bl true)), S) => evE L c d fr S
  | some (.v (.d (.bl false)), S) => evE L c e fr S
  | some (.rz n, S) => some (.rz n, S)
  | _ => none
theorem e_ifx : evE L c (.ifx a d e) fr S = kIfx L c d e fr (evE L c a fr S) := by
  show tst (evE L c a fr S) _ = _
  rcases evE L c a fr S with _ | ⟨_ | _ | _, S1⟩ <;> try rfl
  rename_i s
  cases s <;> try rfl
  rename_i x
  cases x <;> try rfl
  rename_i bb
  cases bb <;> rfl
theorem kIfx_t : kIfx L c d e fr (some (.v (.d (.bl true)), S)) = evE L c d fr S := rfl
theorem kIfx_f : kIfx L c d e fr (some (.v (.d (.bl false)), S)) = evE L c e fr S := rfl
theorem kIfx_r : kIfx L c d e fr (some (.rz n, S)) = some (.rz n, S) := rfl
def kCh4 (S : Sto) (o2 : Co) : Option D → Option D → Option (Xr × Sto)
  | some y, some z => outB S (cmpD o2 y z)
  | _, _ => none
def kCh3 (o2 : Co) (t : Sl) : Option (Xr × Sto) → Option (Xr × Sto)
  | some (.v u, S) => kCh4 S o2 (peek S t) (peek S u)
  | some (.rz n, S) => some (.rz n, S)
  | _ => none
def kChB (L : Lw) (c : Ce) (o2 : Co) (e : E) (fr : Fr) (t : Sl) (S : Sto) : Option Bool → Option (Xr × Sto)
  | some true => kCh3 o2 t (evE L c e fr S)
  | some false => some (.v (.d (.bl false)), S)
  | none => none
def kChP (L : Lw) (c : Ce) (o o2 : Co) (e : E) (fr : Fr) (t : Sl) (S : Sto) : Option D → Option D → Option (Xr × Sto)
  | some x, some y => kChB L c o2 e fr t S (cmpD o x y)
  | _, _ => none
def kCh2 (L : Lw) (c : Ce) (o o2 : Co) (e : E) (fr : Fr) (s : Sl) : Option (Xr × Sto) → Option (Xr × Sto)
  | some (.v t, S) => kChP L c o o2 e fr t S (peek S s) (peek S t)
  | some (.rz n, S) => some (.rz n, S)
  | _ => none
def kCh1 (L : Lw) (c : Ce) (o o2 : Co) (d e : E) (fr : Fr) : Option (Xr × Sto) → Option (Xr × Sto)
  | some (.v s, S) => kCh2 L c o o2 e fr s (evE L c d fr S)
  | some (.rz n, S) => some (.rz n, S)
  | _ => none
theorem e_chn : evE L c (.chn o o2 a d e) fr S = kCh1 L c o o2 d e fr (evE L c a fr S) := by
  show bnd (evE L c a fr S) _ = _
  rcases evE L c a fr S with _ | ⟨_ | _ | _, S1⟩ <;> try rfl
  rename_i s
  show bnd (evE L c d fr S1) _ = kCh2 L c o o2 e fr s (evE L c d fr S1)
  rcases evE L c d fr S1 with _ | ⟨_ | _ | _, S2⟩ <;> try rfl
  rename_i t
  show pk2 S2 s t _ = kChP L c o o2 e fr t S2 (peek S2 s) (peek S2 t)
  unfold pk2 pk1
  cases h1 : peek S2 s <;> cases h2 : peek S2 t <;> try rfl
  rename_i x y
  show (match cmpD o x y with | some true => _ | some false => _ | none => _) = kChB L c o2 e fr t S2 (cmpD o x y)
  rcases cmpD o x y with _ | _ | _ <;> try rfl
  show bnd (evE L c e fr S2) _ = kCh3 o2 t (evE L c e fr S2)
  rcases evE L c e fr S2 with _ | ⟨_ | _ | _, S3⟩ <;> try rfl
  rename_i u
  show pk2 S3 t u _ = kCh4 S3 o2 (peek S3 t) (peek S3 u)
  unfold pk2 pk1
  cases peek S3 t <;> cases peek S3 u <;> rfl
theorem kCh1_v : kCh1 L c o o2 d e fr (some (.v s, S)) = kCh2 L c o o2 e fr s (evE L c d fr S) := rfl
theorem kCh1_r : kCh1 L c o o2 d e fr (some (.rz n, S)) = some (.rz n, S) := rfl
theorem kCh2_v : kCh2 L c o o2 e fr s (some (.v t, S)) = kChP L c o o2 e fr t S (peek S s) (peek S t) := rfl
theorem kCh2_r : kCh2 L c o o2 e fr s (some (.rz n, S)) = some (.rz n, S) := rfl
theorem kChP_s : kChP L c o o2 e fr t S (some x) (some y) = kChB L c o2 e fr t S (cmpD o x y) := rfl
theorem kChB_t : kChB L c o2 e fr t S (some true) = kCh3 o2 t (evE L c e fr S) := rfl
theorem kChB_f : kChB L c o2 e fr t S (some false) = some (.v (.d (.bl false)), S) := rfl
theorem kCh3_v : kCh3 o2 t (some (.v u, S)) = kCh4 S o2 (peek S t) (peek S u) := rfl
theorem kCh3_r : kCh3 o2 t (some (.rz n, S)) = some (.rz n, S) := rfl
theorem kCh4_s : kCh4 S o2 (some y) (some z) = outB S (cmpD o2 y z) := rfl
theorem e_nil : evE L c .nil fr S = some (.vs [], S) := rfl
def kCs2 (s : Sl) : Option (Xr × Sto) → Option (Xr × Sto)
  | some (.vs l, S) => some (.vs (s :: l), S)
  | some (.rz n, S) => some (.rz n, S)
  | _ => none
def kCs1 (L : Lw) (c : Ce) (d : E) (fr : Fr) : Option (Xr × Sto) → Option (Xr × Sto)
  | some (.v s, S) => kCs2 s (evE L c d fr S)
  | some (.rz n, S) => some (.rz n, S)
  | _ => none
theorem e_cons : evE L c (.cons a d) fr S = kCs1 L c d fr (evE L c a fr S) := by
  show bnd (evE L c a fr S) _ = _
  rcases evE L c a fr S with _ | ⟨_ | _ | _, S1⟩ <;> try rfl
theorem kCs1_v : kCs1 L c d fr (some (.v s, S)) = kCs2 s (evE L c d fr S) := rfl
theorem kCs1_r : kCs1 L c d fr (some (.rz n, S)) = some (.rz n, S) := rfl
theorem kCs2_v : kCs2 s (some (.vs l, S)) = some (.vs (s :: l), S) := rfl
theorem kCs2_r : kCs2 s (some (.rz n, S)) = some (.rz n, S) := rfl
def kTu2 (S : Sto) : Option (List D) → Option (Xr × Sto)
  | some xs => if Nat.ble xs.length 1000000 then some (.v (.d (.tup xs)), S) else none
  | none => none
def kTu1 : Option (Xr × Sto) → Option (Xr × Sto)
  | some (.vs l, S) => kTu2 S (datL l)
  | some (.rz n, S) => some (.rz n, S)
  | _ => none
theorem e_tup : evE L c (.tup a) fr S = kTu1 (evE L c a fr S) := by
  show bndL (evE L c a fr S) _ = _
  rcases evE L c a fr S with _ | ⟨_ | _ | _, S1⟩ <;> try rfl
theorem kTu1_v : kTu1 (some (.vs l, S)) = kTu2 S (datL l) := rfl
theorem kTu1_r : kTu1 (some (.rz n, S)) = some (.rz n, S) := rfl
theorem kTu2_0 : kTu2 S (some []) = some (.v (.d (.tup [])), S) := rfl
theorem kTu2_1 {y0 : D} : kTu2 S (some [y0]) = some (.v (.d (.tup [y0])), S) := rfl
theorem kTu2_2 {y0 y1 : D} : kTu2 S (some [y0, y1]) = some (.v (.d (.tup [y0, y1])), S) := rfl
theorem kTu2_3 {y0 y1 y2 : D} : kTu2 S (some [y0, y1, y2]) = some (.v (.d (.tup [y0, y1, y2])), S) := rfl
theorem kTu2_4 {y0 y1 y2 y3 : D} : kTu2 S (some [y0, y1, y2, y3]) = some (.v (.d (.tup [y0, y1, y2, y3])), S) := rfl
theorem kTu2_5 {y0 y1 y2 y3 y4 : D} : kTu2 S (some [y0, y1, y2, y3, y4]) = some (.v (.d (.tup [y0, y1, y2, y3, y4])), S) := rfl
theorem kTu2_6 {y0 y1 y2 y3 y4 y5 : D} : kTu2 S (some [y0, y1, y2, y3, y4, y5]) = some (.v (.d (.tup [y0, y1, y2, y3, y4, y5])), S) := rfl
theorem kTu2_7 {y0 y1 y2 y3 y4 y5 y6 : D} : kTu2 S (some [y0, y1, y2, y3, y4, y5, y6]) = some (.v (.d (.tup [y0, y1, y2, y3, y4, y5, y6])), S) := rfl
theorem kTu2_8 {y0 y1 y2 y3 y4 y5 y6 y7 : D} : kTu2 S (some [y0, y1, y2, y3, y4, y5, y6, y7]) = some (.v (.d (.tup [y0, y1, y2, y3, y4, y5, y6, y7])), S) := rfl
def kLi2 (S : Sto) : Option (List D) → Option (Xr × Sto)
  | some xs => if Nat.ble xs.length 1000000 then some (.v (.d (.lst xs)), S) else none
  | none => none
def kLi1 : Option (Xr × Sto) → Option (Xr × Sto)
  | some (.vs l, S) => kLi2 S (datL l)
  | some (.rz n, S) => some (.rz n, S)
  | _ => none
theorem e_lst : evE L c (.lst a) fr S = kLi1 (evE L c a fr S) := by
  show bndL (evE L c a fr S) _ = _
  rcases evE L c a fr S with _ | ⟨_ | _ | _, S1⟩ <;> try rfl
theorem kLi1_v : kLi1 (some (.vs l, S)) = kLi2 S (datL l) := rfl
theorem kLi1_r : kLi1 (some (.rz n, S)) = some (.rz n, S) := rfl
theorem kLi2_0 : kLi2 S (some []) = some (.v (.d (.lst [])), S) := rfl
theorem kLi2_1 {y0 : D} : kLi2 S (some [y0]) = some (.v (.d (.lst [y0])), S) := rfl
theorem kLi2_2 {y0 y1 : D} : kLi2 S (some [y0, y1]) = some (.v (.d (.lst [y0, y1])), S) := rfl
theorem kLi2_3 {y0 y1 y2 : D} : kLi2 S (some [y0, y1, y2]) = some (.v (.d (.lst [y0, y1, y2])), S) := rfl
theorem kLi2_4 {y0 y1 y2 y3 : D} : kLi2 S (some [y0, y1, y2, y3]) = some (.v (.d (.lst [y0, y1, y2, y3])), S) := rfl
theorem kLi2_5 {y0 y1 y2 y3 y4 : D} : kLi2 S (some [y0, y1, y2, y3, y4]) = some (.v (.d (.lst [y0, y1, y2, y3, y4])), S) := rfl
theorem kLi2_6 {y0 y1 y2 y3 y4 y5 : D} : kLi2 S (some [y0, y1, y2, y3, y4, y5]) = some (.v (.d (.lst [y0, y1, y2, y3, y4, y5])), S) := rfl
theorem kLi2_7 {y0 y1 y2 y3 y4 y5 y6 : D} : kLi2 S (some [y0, y1, y2, y3, y4, y5, y6]) = some (.v (.d (.lst [y0, y1, y2, y3, y4, y5, y6])), S) := rfl
theorem kLi2_8 {y0 y1 y2 y3 y4 y5 y6 y7 : D} : kLi2 S (some [y0, y1, y2, y3, y4, y5, y6, y7]) = some (.v (.d (.lst [y0, y1, y2, y3, y4, y5, y6, y7])), S) := rfl
def kCa2 : Option (Cr × Sto) → Option (Xr × Sto)
  | some (.ok x, S) => some (.v (.d x), S)
  | some (.rz k, S) => some (.rz k, S)
  | none => none
def kCa1 (c : Ce) (f : Nat) : Option (Xr × Sto) → Option (Xr × Sto)
  | some (.vs l, S) => kCa2 (c f l S)
  | some (.rz n, S) => some (.rz n, S)
  | _ => none
theorem e_call : evE L c (.call f a) fr S = kCa1 c f (evE L c a fr S) := by
  show bndL (evE L c a fr S) _ = _
  rcases evE L c a fr S with _ | ⟨_ | _ | _, S1⟩ <;> try rfl
theorem kCa1_v : kCa1 c f (some (.vs l, S)) = kCa2 (c f l S) := rfl
theorem kCa1_r : kCa1 c f (some (.rz n, S)) = some (.rz n, S) := rfl
theorem kCa2_o : kCa2 (some (.ok x, S)) = some (.v (.d x), S) := rfl
theorem kCa2_r : kCa2 (some (.rz k, S)) = some (.rz k, S) := rfl
def kBl2 (L : Lw) (fb : Bf) (S : Sto) : Option (List D) → Option (Xr × Sto)
  | some xs => outD S (bltD L fb xs)
  | none => none
def kBl1 (L : Lw) (fb : Bf) : Option (Xr × Sto) → Option (Xr × Sto)
  | some (.vs l, S) => kBl2 L fb S (peekL S l)
  | some (.rz n, S) => some (.rz n, S)
  | _ => none
theorem e_blt : evE L c (.blt fb a) fr S = kBl1 L fb (evE L c a fr S) := by
  show bndL (evE L c a fr S) _ = _
  rcases evE L c a fr S with _ | ⟨_ | _ | _, S1⟩ <;> try rfl
theorem kBl1_v : kBl1 L fb (some (.vs l, S)) = kBl2 L fb S (peekL S l) := rfl
theorem kBl1_r : kBl1 L fb (some (.rz n, S)) = some (.rz n, S) := rfl
theorem kBl2_s : kBl2 L fb S (some xs) = outD S (bltD L fb xs) := rfl
def kPL (S : Sto) (l : List Sl) : Option D → Option (List D)
  | some x => (peekL S l).map fun l => x :: l
  | none => none
theorem pl_nil : peekL S [] = some [] := rfl
theorem pl_cons : peekL S (s :: l) = kPL S l (peek S s) := by
  cases h : peek S s <;> simp [peekL, h, kPL]
theorem kPL_s : kPL S l (some x) = (peekL S l).map (List.cons x) := rfl
def kR1 : Option (Xr × Sto) → Option (Xr × Sto)
  | some (.v (.d (.int j)), S) => if mid j then some (.v (.d (.lst (rngL 0 j))), S) else none
  | some (.rz n, S) => some (.rz n, S)
  | _ => none
theorem e_rng1 : evE L c (.rng1 a) fr S = kR1 (evE L c a fr S) := by
  show bnd (evE L c a fr S) _ = _
  rcases evE L c a fr S with _ | ⟨_ | _ | _, S1⟩ <;> try rfl
  rename_i s
  cases s <;> try rfl
  rename_i x
  cases x <;> rfl
theorem kR1_v {w : Int} (h : mid w = true) : kR1 (some (.v (.d (.int w)), S)) = some (.v (.d (.lst (rngL 0 w))), S) := if_pos h
def kR2b (s : Sl) : Option (Xr × Sto) → Option (Xr × Sto)
  | some (.v t, S) => (match s, t with
    | .d (.int i), .d (.int j) => if mid i && mid j then some (.v (.d (.lst (rngL i j))), S) else none
    | _, _ => none)
  | some (.rz n, S) => some (.rz n, S)
  | _ => none
def kR2 (L : Lw) (c : Ce) (d : E) (fr : Fr) : Option (Xr × Sto) → Option (Xr × Sto)
  | some (.v s, S) => kR2b s (evE L c d fr S)
  | some (.rz n, S) => some (.rz n, S)
  | _ => none
theorem e_rng2 : evE L c (.rng2 a d) fr S = kR2 L c d fr (evE L c a fr S) := by
  show bnd (evE L c a fr S) _ = _
  rcases evE L c a fr S with _ | ⟨_ | _ | _, S1⟩ <;> try rfl
theorem kR2_v : kR2 L c d fr (some (.v s, S)) = kR2b s (evE L c d fr S) := rfl
theorem kR2_r : kR2 L c d fr (some (.rz n, S)) = some (.rz n, S) := rfl
theorem kR2b_v {v w : Int} (h : mid v = true) (h2 : mid w = true) : kR2b (.d (.int v)) (some (.v (.d (.int w)), S)) = some (.v (.d (.lst (rngL v w))), S) := by
  show (if (mid v && mid w) = true then _ else _) = _
  rw [h, h2]
  rfl
def kC2 (L : Lw) (c : Ce) (ws : List Nat) (g : Tg) (d e : E) (fr : Fr) (S : Sto) : Option (List D) → Option (Xr × Sto)
  | some xs => if Nat.ble xs.length 100000 then compL (stepC L c g d e (wipeS fr ws)) xs [] S else none
  | none => none
def kC1 (L : Lw) (c : Ce) (ws : List Nat) (g : Tg) (d e : E) (fr : Fr) : Option (Xr × Sto) → Option (Xr × Sto)
  | some (.v (.d x), S) => kC2 L c ws g d e fr S (seqD x)
  | some (.rz n, S) => some (.rz n, S)
  | _ => none
theorem e_comp : evE L c (.comp ws g a d e) fr S = kC1 L c ws g d e fr (evE L c a fr S) := by
  show bnd (evE L c a fr S) _ = _
  rcases evE L c a fr S with _ | ⟨_ | _ | _, S1⟩ <;> try rfl
  rename_i s
  cases s <;> try rfl
theorem kC1_v : kC1 L c ws g d e fr (some (.v (.d x), S)) = kC2 L c ws g d e fr S (seqD x) := rfl
theorem kC1_r : kC1 L c ws g d e fr (some (.rz n, S)) = some (.rz n, S) := rfl
theorem kC2_s (h : Nat.ble xs.length 100000 = true) : kC2 L c ws g d e fr S (some xs) = compL (stepC L c g d e (wipeS fr ws)) xs [] S := if_pos h
def kCL (f : D → Sto → Option (Option D × Sto)) (xs acc : List D) : Option (Option D × Sto) → Option (Xr × Sto)
  | some (some y, S) => compL f xs (acc ++ [y]) S
  | some (none, S) => compL f xs acc S
  | none => none
theorem cl_nil {h : D → Sto → Option (Option D × Sto)} : compL h [] acc S = some (.v (.d (.lst acc)), S) := rfl
theorem cl_cons {h : D → Sto → Option (Option D × Sto)} : compL h (x :: xs) acc S = kCL h xs acc (h x S) := by
  rcases q : h x S with _ | ⟨_ | _, S1⟩ <;> simp [compL, q, kCL]
theorem kCL_y {h : D → Sto → Option (Option D × Sto)} : kCL h xs acc (some (some y, S)) = compL h xs (acc ++ [y]) S := rfl
theorem kCL_n {h : D → Sto → Option (Option D × Sto)} : kCL h xs acc (some (none, S)) = compL h xs acc S := rfl
def kS3 : Option (Xr × Sto) → Option (Option D × Sto)
  | some (.v (.d y), S) => some (some y, S)
  | _ => none
def kS2 (L : Lw) (c : Ce) (e : E) (fr : Fr) : Option (Xr × Sto) → Option (Option D × Sto)
  | some (.v (.d (.bl true)), S) => kS3 (evE L c e fr S)
  | some (.v (.d (.bl false)), S) => some (none, S)
  | _ => none
def kS1 (L : Lw) (c : Ce) (d e : E) (S : Sto) : Option Fr → Option (Option D × Sto)
  | some fr => kS2 L c e fr (evE L c d fr S)
  | none => none
theorem s_step : stepC L c g d e fr x S = kS1 L c d e S (bindT g x fr) := by
  unfold stepC
  cases bindT g x fr with
  | none => rfl
  | some fr2 =>
    show (match evE L c d fr2 S with | some (.v (.d (.bl true)), S1) => _ | some (.v (.d (.bl false)), S1) => _ | _ => _) = kS2 L c e fr2 (evE L c d fr2 S)
    rcases evE L c d fr2 S with _ | ⟨_ | _ | _, S1⟩ <;> try rfl
theorem kS1_s : kS1 L c d e S (some fr) = kS2 L c e fr (evE L c d fr S) := rfl
theorem kS2_t : kS2 L c e fr (some (.v (.d (.bl true)), S)) = kS3 (evE L c e fr S) := rfl
theorem kS2_f : kS2 L c e fr (some (.v (.d (.bl false)), S)) = some (none, S) := rfl
theorem kS3_v : kS3 (some (.v (.d y), S)) = some (some y, S) := rfl
def kSq (L : Lw) (c : Ce) (b : Nat) (r : T) : Option (Rr × Fr × Sto) → Option (Rr × Fr × Sto)
  | some (.nx, fr, S) => evT L c b r fr S
  | z => z
theorem t_seq : evT L c b (.seq q r) fr S = kSq L c b r (evT L c b q fr S) := by
  show bndS (evT L c b q fr S) _ = _
  rcases evT L c b q fr S with _ | ⟨_ | _ | _ | _, fr1, S1⟩ <;> rfl
theorem kSq_n : kSq L c b r (some (.nx, fr, S)) = evT L c b r fr S := rfl
theorem kSq_t : kSq L c b r (some (.ret x, fr, S)) = some (.ret x, fr, S) := rfl
theorem kSq_r : kSq L c b r (some (.rz n, fr, S)) = some (.rz n, fr, S) := rfl
theorem kSq_b : kSq L c b r (some (.bk, fr, S)) = some (.bk, fr, S) := rfl
theorem t_nop : evT L c b .nop fr S = some (.nx, fr, S) := rfl
def kAs2 (S : Sto) : Option Fr → Option (Rr × Fr × Sto)
  | some fr => some (.nx, fr, S)
  | none => none
def kAs1 (g : Tg) (fr : Fr) : Option (Xr × Sto) → Option (Rr × Fr × Sto)
  | some (.v (.d x), S) => kAs2 S (bindT g x fr)
  | some (.rz n, S) => some (.rz n, fr, S)
  | _ => none
theorem t_asg : evT L c b (.asg g a) fr S = kAs1 g fr (evE L c a fr S) := by
  show bndE fr (evE L c a fr S) _ = _
  rcases evE L c a fr S with _ | ⟨_ | _ | _, S1⟩ <;> try rfl
  rename_i s
  cases s <;> try rfl
theorem kAs1_v : kAs1 g fr (some (.v (.d x), S)) = kAs2 S (bindT g x fr) := rfl
theorem kAs1_r : kAs1 g fr (some (.rz n, S)) = some (.rz n, fr, S) := rfl
theorem kAs2_s : kAs2 S (some fr) = some (.nx, fr, S) := rfl
def kPa2 (fr : Fr) (i j : Nat) (s : Sl) : Option (Xr × Sto) → Option (Rr × Fr × Sto)
  | some (.v t, S) => parK fr i j s t S
  | some (.rz n, S) => some (.rz n, fr, S)
  | _ => none
def kPa1 (L : Lw) (c : Ce) (i j : Nat) (d : E) (fr : Fr) : Option (Xr × Sto) → Option (Rr × Fr × Sto)
  | some (.v s, S) => kPa2 fr i j s (evE L c d fr S)
  | some (.rz n, S) => some (.rz n, fr, S)
  | _ => none
theorem t_par : evT L c b (.par i j a d) fr S = kPa1 L c i j d fr (evE L c a fr S) := by
  show bndE fr (evE L c a fr S) _ = _
  rcases evE L c a fr S with _ | ⟨_ | _ | _, S1⟩ <;> try rfl
theorem kPa1_v : kPa1 L c i j d fr (some (.v s, S)) = kPa2 fr i j s (evE L c d fr S) := rfl
theorem kPa2_v : kPa2 fr i j s (some (.v t, S)) = parK fr i j s t S := rfl
theorem par_d : parK fr i j (.d x) (.d y) S = some (.nx, (fr.set i (.d x)).set j (.d y), S) := rfl
def kRt : Fr → Option (Xr × Sto) → Option (Rr × Fr × Sto)
  | fr, some (.v (.d x), S) => some (.ret x, fr, S)
  | fr, some (.rz n, S) => some (.rz n, fr, S)
  | _, _ => none
theorem t_ret : evT L c b (.ret a) fr S = kRt fr (evE L c a fr S) := by
  show bndE fr (evE L c a fr S) _ = _
  rcases evE L c a fr S with _ | ⟨_ | _ | _, S1⟩ <;> try rfl
  rename_i s
  cases s <;> rfl
theorem kRt_v : kRt fr (some (.v (.d x), S)) = some (.ret x, fr, S) := rfl
theorem kRt_r : kRt fr (some (.rz n, S)) = some (.rz n, fr, S) := rfl
def kEx : Fr → Option (Xr × Sto) → Option (Rr × Fr × Sto)
  | fr, some (.v _, S) => some (.nx, fr, S)
  | fr, some (.rz n, S) => some (.rz n, fr, S)
  | _, _ => none
theorem t_exp : evT L c b (.exp a) fr S = kEx fr (evE L c a fr S) := by
  show bndE fr (evE L c a fr S) _ = _
  rcases evE L c a fr S with _ | ⟨_ | _ | _, S1⟩ <;> rfl
theorem kEx_v : kEx fr (some (.v s, S)) = some (.nx, fr, S) := rfl
theorem kEx_r : kEx fr (some (.rz n, S)) = some (.rz n, fr, S) := rfl
def kIt (L : Lw) (c : Ce) (b : Nat) (q r : T) (fr : Fr) : Option (Xr × Sto) → Option (Rr × Fr × Sto)
  | some (.v (.d (.bl true)), S) => evT L c b q fr S
  | some (.v (.d (.bl false)), S) => evT L c b r fr S
  | some (.rz n, S) => some (.rz n, fr, S)
  | _ => none
theorem t_ite : evT L c b (.ite a q r) fr S = kIt L c b q r fr (evE L c a fr S) := by
  show (match evE L c a fr S with | some (.v (.d (.bl true)), S1) => _ | some (.v (.d (.bl false)), S1) => _ | some (.rz k, S1) => _ | _ => _) = _
  rcases evE L c a fr S with _ | ⟨_ | _ | _, S1⟩ <;> try rfl
theorem kIt_t : kIt L c b q r fr (some (.v (.d (.bl true)), S)) = evT L c b q fr S := rfl
theorem kIt_f : kIt L c b q r fr (some (.v (.d (.bl false)), S)) = evT L c b r fr S := rfl
theorem kIt_r : kIt L c b q r fr (some (.rz n, S)) = some (.rz n, fr, S) := rfl
theorem t_rse : evT L c b (.rse k) fr S = some (.rz k, fr, S) := rfl
theorem t_brk : evT L c b .brk fr S = some (.bk, fr, S) := rfl
def kTr (i j : Nat) : Option (Rr × Fr × Sto) → Option (Rr × Fr × Sto)
  | some (.rz k, fr, S) => some (.nx, (fr.set j (.d (.exc k))).set i .un, S)
  | z => z
theorem t_try : evT L c b (.tryc i j q) fr S = kTr i j (evT L c b q fr S) := by
  show (match evT L c b q fr S with | some (.rz k, fr1, S1) => _ | r => r) = _
  rcases evT L c b q fr S with _ | ⟨_ | _ | _ | _, fr1, S1⟩ <;> rfl
theorem kTr_r : kTr i j (some (.rz k, fr, S)) = some (.nx, (fr.set j (.d (.exc k))).set i .un, S) := rfl
theorem kTr_n : kTr i j (some (.nx, fr, S)) = some (.nx, fr, S) := rfl
theorem kTr_t : kTr i j (some (.ret x, fr, S)) = some (.ret x, fr, S) := rfl
def stepF (L : Lw) (c : Ce) (b : Nat) (g : Tg) (q : T) (x : D) (fr : Fr) (S : Sto) : Option (Rr × Fr × Sto) := match bindT g x fr with
  | some fr1 => evT L c b q fr1 S
  | none => none
def kF2 (L : Lw) (c : Ce) (b : Nat) (g : Tg) (q : T) (fr : Fr) (S : Sto) : Option (List D) → Option (Rr × Fr × Sto)
  | some xs => forL (stepF L c b g q) xs fr S
  | none => none
def kF1 (L : Lw) (c : Ce) (b : Nat) (g : Tg) (q : T) (fr : Fr) : Option (Xr × Sto) → Option (Rr × Fr × Sto)
  | some (.v (.d x), S) => kF2 L c b g q fr S (seqD x)
  | some (.rz n, S) => some (.rz n, fr, S)
  | _ => none
theorem t_for : evT L c b (.for g a q) fr S = kF1 L c b g q fr (evE L c a fr S) := by
  show bndE fr (evE L c a fr S) _ = _
  rcases evE L c a fr S with _ | ⟨_ | _ | _, S1⟩ <;> try rfl
  rename_i s
  cases s <;> try rfl
theorem kF1_v : kF1 L c b g q fr (some (.v (.d x), S)) = kF2 L c b g q fr S (seqD x) := rfl
theorem kF1_r : kF1 L c b g q fr (some (.rz n, S)) = some (.rz n, fr, S) := rfl
theorem kF2_s : kF2 L c b g q fr S (some xs) = forL (stepF L c b g q) xs fr S := rfl
def kFL (h : D → Fr → Sto → Option (Rr × Fr × Sto)) (xs : List D) : Option (Rr × Fr × Sto) → Option (Rr × Fr × Sto)
  | some (.nx, fr, S) => forL h xs fr S
  | some (.bk, fr, S) => some (.nx, fr, S)
  | z => z
theorem fl_nil {h : D → Fr → Sto → Option (Rr × Fr × Sto)} : forL h [] fr S = some (.nx, fr, S) := rfl
theorem fl_cons {h : D → Fr → Sto → Option (Rr × Fr × Sto)} : forL h (x :: xs) fr S = kFL h xs (h x fr S) := by
  rcases q : h x fr S with _ | ⟨_ | _ | _ | _, fr1, S1⟩ <;> simp [forL, q, kFL]
theorem kFL_n {h : D → Fr → Sto → Option (Rr × Fr × Sto)} : kFL h xs (some (.nx, fr, S)) = forL h xs fr S := rfl
theorem kFL_t {h : D → Fr → Sto → Option (Rr × Fr × Sto)} : kFL h xs (some (.ret x, fr, S)) = some (.ret x, fr, S) := rfl
theorem kFL_r {h : D → Fr → Sto → Option (Rr × Fr × Sto)} : kFL h xs (some (.rz n, fr, S)) = some (.rz n, fr, S) := rfl
theorem kFL_b {h : D → Fr → Sto → Option (Rr × Fr × Sto)} : kFL h xs (some (.bk, fr, S)) = some (.nx, fr, S) := rfl
def kSF (L : Lw) (c : Ce) (b : Nat) (q : T) (S : Sto) : Option Fr → Option (Rr × Fr × Sto)
  | some fr => evT L c b q fr S
  | none => none
theorem s_for : stepF L c b g q x fr S = kSF L c b q S (bindT g x fr) := by
  unfold stepF
  cases bindT g x fr <;> rfl
theorem kSF_s : kSF L c b q S (some fr) = evT L c b q fr S := rfl
def kAp3 (fr : Fr) (j : Nat) (y : D) (S : Sto) : Option Cl → Option (Rr × Fr × Sto)
  | some (.live (.lst xs)) => if Nat.ble xs.length 1000000 then some (.nx, fr, S.set j (.live (.lst (xs ++ [y])))) else none
  | _ => none
theorem kAp3_l (h : Nat.ble xs.length 1000000 = true) : kAp3 fr j y S (some (.live (.lst xs))) = some (.nx, fr, S.set j (.live (.lst (xs ++ [y])))) := if_pos h
theorem t_apd (h1 : evE L c a fr S = some (.v (.ref j), S1)) (h2 : S1[j]? = some (.live (.lst acc))) (h3 : evE L c d fr S1 = some (.v (.d y), S2)) : evT L c b (.apd a d) fr S = kAp3 fr j y S2 S2[j]? := by
  simp only [evT, h1, bndE, h2, h3]
  cases q : S2[j]? with
  | none => rfl
  | some w => cases w <;> try rfl
end
/-! data -/
section
variable {i j : Int} {x y : D} {xs ys : List D}
theorem b_add : binD .add (.int i) (.int j) = some (.int (i + j)) := rfl
theorem b_sub : binD .sub (.int i) (.int j) = some (.int (i - j)) := rfl
theorem b_mul (h : smB i = true) (h2 : smB j = true) : binD .mul (.int i) (.int j) = some (.int (i * j)) := by
  show (if (smB i && smB j) = true then _ else _) = _
  rw [h, h2]
  rfl
theorem b_fdiv (h : smB j = true) (h2 : (j == 0) = false) : binD .fdiv (.int i) (.int j) = some (.int (i.fdiv j)) := by
  show (if (smB j && !(j == 0)) = true then _ else _) = _
  rw [h, h2]
  rfl
theorem b_mod (h2 : (j == 0) = false) : binD .mod (.int i) (.int j) = some (.int (i.fmod j)) := by
  show (if (j == 0) = true then _ else _) = _
  rw [h2]
  rfl
theorem c_lt : cmpD .lt (.int i) (.int j) = some (decide (i < j)) := rfl
theorem c_le : cmpD .le (.int i) (.int j) = some (decide (i ≤ j)) := rfl
theorem c_gt : cmpD .gt (.int i) (.int j) = some (decide (j < i)) := rfl
theorem c_ge : cmpD .ge (.int i) (.int j) = some (decide (j ≤ i)) := rfl
theorem c_eq (h : pln 60 x = true) (h2 : pln 60 y = true) : cmpD .eq x y = some (deq x y) := by
  show (if (pln 60 x && pln 60 y) = true then _ else _) = _
  rw [h, h2]
  rfl
theorem c_ne (h : pln 60 x = true) (h2 : pln 60 y = true) : cmpD .ne x y = some (!deq x y) := by
  show (if (pln 60 x && pln 60 y) = true then _ else _) = _
  rw [h, h2]
  rfl
theorem c_eqi : cmpD .eq (.int i) (.int j) = some (i == j) := rfl
theorem c_nei : cmpD .ne (.int i) (.int j) = some (!(i == j)) := rfl
theorem l_len {L : Lw} : bltD L .len [.tup xs] = some (.int xs.length) := rfl
theorem l_lenl {L : Lw} : bltD L .len [.lst xs] = some (.int xs.length) := rfl
theorem l_tup {L : Lw} : bltD L .tuple [.lst xs] = some (.tup xs) := rfl
theorem l_list {L : Lw} : bltD L .list [.tup xs] = some (.lst xs) := rfl
theorem l_abs {L : Lw} : bltD L .abs [.int i] = some (.int (if i < 0 then -i else i)) := rfl
theorem sq_t : seqD (.tup xs) = some xs := rfl
theorem sq_l : seqD (.lst xs) = some xs := rfl
theorem i_t1_0 {x0 : D} : itemD (.tup [x0]) 0 = some x0 := rfl
theorem i_l1_0 {x0 : D} : itemD (.lst [x0]) 0 = some x0 := rfl
theorem i_t2_0 {x0 x1 : D} : itemD (.tup [x0, x1]) 0 = some x0 := rfl
theorem i_l2_0 {x0 x1 : D} : itemD (.lst [x0, x1]) 0 = some x0 := rfl
theorem i_t2_1 {x0 x1 : D} : itemD (.tup [x0, x1]) 1 = some x1 := rfl
theorem i_l2_1 {x0 x1 : D} : itemD (.lst [x0, x1]) 1 = some x1 := rfl
theorem i_t3_0 {x0 x1 x2 : D} : itemD (.tup [x0, x1, x2]) 0 = some x0 := rfl
theorem i_l3_0 {x0 x1 x2 : D} : itemD (.lst [x0, x1, x2]) 0 = some x0 := rfl
theorem i_t3_1 {x0 x1 x2 : D} : itemD (.tup [x0, x1, x2]) 1 = some x1 := rfl
theorem i_l3_1 {x0 x1 x2 : D} : itemD (.lst [x0, x1, x2]) 1 = some x1 := rfl
theorem i_t3_2 {x0 x1 x2 : D} : itemD (.tup [x0, x1, x2]) 2 = some x2 := rfl
theorem i_l3_2 {x0 x1 x2 : D} : itemD (.lst [x0, x1, x2]) 2 = some x2 := rfl
theorem i_t4_0 {x0 x1 x2 x3 : D} : itemD (.tup [x0, x1, x2, x3]) 0 = some x0 := rfl
theorem i_l4_0 {x0 x1 x2 x3 : D} : itemD (.lst [x0, x1, x2, x3]) 0 = some x0 := rfl
theorem i_t4_1 {x0 x1 x2 x3 : D} : itemD (.tup [x0, x1, x2, x3]) 1 = some x1 := rfl
theorem i_l4_1 {x0 x1 x2 x3 : D} : itemD (.lst [x0, x1, x2, x3]) 1 = some x1 := rfl
theorem i_t4_2 {x0 x1 x2 x3 : D} : itemD (.tup [x0, x1, x2, x3]) 2 = some x2 := rfl
theorem i_l4_2 {x0 x1 x2 x3 : D} : itemD (.lst [x0, x1, x2, x3]) 2 = some x2 := rfl
theorem i_t4_3 {x0 x1 x2 x3 : D} : itemD (.tup [x0, x1, x2, x3]) 3 = some x3 := rfl
theorem i_l4_3 {x0 x1 x2 x3 : D} : itemD (.lst [x0, x1, x2, x3]) 3 = some x3 := rfl
theorem i_t5_0 {x0 x1 x2 x3 x4 : D} : itemD (.tup [x0, x1, x2, x3, x4]) 0 = some x0 := rfl
theorem i_l5_0 {x0 x1 x2 x3 x4 : D} : itemD (.lst [x0, x1, x2, x3, x4]) 0 = some x0 := rfl
theorem i_t5_1 {x0 x1 x2 x3 x4 : D} : itemD (.tup [x0, x1, x2, x3, x4]) 1 = some x1 := rfl
theorem i_l5_1 {x0 x1 x2 x3 x4 : D} : itemD (.lst [x0, x1, x2, x3, x4]) 1 = some x1 := rfl
theorem i_t5_2 {x0 x1 x2 x3 x4 : D} : itemD (.tup [x0, x1, x2, x3, x4]) 2 = some x2 := rfl
theorem i_l5_2 {x0 x1 x2 x3 x4 : D} : itemD (.lst [x0, x1, x2, x3, x4]) 2 = some x2 := rfl
theorem i_t5_3 {x0 x1 x2 x3 x4 : D} : itemD (.tup [x0, x1, x2, x3, x4]) 3 = some x3 := rfl
theorem i_l5_3 {x0 x1 x2 x3 x4 : D} : itemD (.lst [x0, x1, x2, x3, x4]) 3 = some x3 := rfl
theorem i_t5_4 {x0 x1 x2 x3 x4 : D} : itemD (.tup [x0, x1, x2, x3, x4]) 4 = some x4 := rfl
theorem i_l5_4 {x0 x1 x2 x3 x4 : D} : itemD (.lst [x0, x1, x2, x3, x4]) 4 = some x4 := rfl
theorem i_t6_0 {x0 x1 x2 x3 x4 x5 : D} : itemD (.tup [x0, x1, x2, x3, x4, x5]) 0 = some x0 := rfl
theorem i_l6_0 {x0 x1 x2 x3 x4 x5 : D} : itemD (.lst [x0, x1, x2, x3, x4, x5]) 0 = some x0 := rfl
theorem i_t6_1 {x0 x1 x2 x3 x4 x5 : D} : itemD (.tup [x0, x1, x2, x3, x4, x5]) 1 = some x1 := rfl
theorem i_l6_1 {x0 x1 x2 x3 x4 x5 : D} : itemD (.lst [x0, x1, x2, x3, x4, x5]) 1 = some x1 := rfl
theorem i_t6_2 {x0 x1 x2 x3 x4 x5 : D} : itemD (.tup [x0, x1, x2, x3, x4, x5]) 2 = some x2 := rfl
theorem i_l6_2 {x0 x1 x2 x3 x4 x5 : D} : itemD (.lst [x0, x1, x2, x3, x4, x5]) 2 = some x2 := rfl
theorem i_t6_3 {x0 x1 x2 x3 x4 x5 : D} : itemD (.tup [x0, x1, x2, x3, x4, x5]) 3 = some x3 := rfl
theorem i_l6_3 {x0 x1 x2 x3 x4 x5 : D} : itemD (.lst [x0, x1, x2, x3, x4, x5]) 3 = some x3 := rfl
theorem i_t6_4 {x0 x1 x2 x3 x4 x5 : D} : itemD (.tup [x0, x1, x2, x3, x4, x5]) 4 = some x4 := rfl
theorem i_l6_4 {x0 x1 x2 x3 x4 x5 : D} : itemD (.lst [x0, x1, x2, x3, x4, x5]) 4 = some x4 := rfl
theorem i_t6_5 {x0 x1 x2 x3 x4 x5 : D} : itemD (.tup [x0, x1, x2, x3, x4, x5]) 5 = some x5 := rfl
theorem i_l6_5 {x0 x1 x2 x3 x4 x5 : D} : itemD (.lst [x0, x1, x2, x3, x4, x5]) 5 = some x5 := rfl
theorem bt_nm {k : Nat} {fr : Fr} : bindT (.nm k) x fr = some (fr.set k (.d x)) := rfl
theorem wp_nil {l : List Sl} : wipeS l [] = l := rfl
theorem wp_cons {l : List Sl} {v : Nat} {vs : List Nat} : wipeS l (v :: vs) = (wipeS l vs).set v .un := rfl
end
end Cm

/-! plain words: fractions, mirrors -/
namespace Cm
open PySem PySem.Spec PyProof.Rows L2
def frk (t u : Int) : Int := if 0 < u then (Int.gcd t u : Int) else 0 - (Int.gcd t u : Int)
def frN (t u : Int) : Int := t.fdiv (frk t u)
def frD (t u : Int) : Int := u.fdiv (frk t u)
def frV (t u : Int) : D := .tup [.int (frN t u), .int (frD t u)]
theorem fr_split {t u : Int} (hu : u ≠ 0) : ∃ k : Int, k ≠ 0 ∧ t = k * frN t u ∧ u = k * frD t u ∧ 0 < frD t u ∧ Int.gcd (frN t u) (frD t u) = 1 := by
  have g0 : Int.gcd t u ≠ 0 := fun z => hu (Int.gcd_eq_zero_iff.mp z).2
  have hk : frk t u ≠ 0 := by unfold frk; split <;> omega
  have d1 : frk t u ∣ t := by
    unfold frk
    split
    · exact Int.gcd_dvd_left _ _
    · rw [Int.zero_sub]; exact Int.neg_dvd.mpr (Int.gcd_dvd_left _ _)
  have d2 : frk t u ∣ u := by
    unfold frk
    split
    · exact Int.gcd_dvd_right _ _
    · rw [Int.zero_sub]; exact Int.neg_dvd.mpr (Int.gcd_dvd_right _ _)
  have ka : (frk t u).natAbs = Int.gcd t u := by unfold frk; split <;> omega
  have ks : 0 < frk t u ↔ 0 < u := by unfold frk; split <;> omega
  obtain ⟨p, hp⟩ := d1
  obtain ⟨q, hq⟩ := d2
  have e1 : frN t u = p := by
    unfold frN
    generalize frk t u = k at *
    rw [hp, Int.mul_fdiv_cancel_left _ hk]
  have e2 : frD t u = q := by
    unfold frD
    generalize frk t u = k at *
    rw [hq, Int.mul_fdiv_cancel_left _ hk]
  rw [e1, e2]
  refine ⟨_, hk, hp, hq, ?_, ?_⟩
  · rcases Int.lt_trichotomy 0 (frk t u) with z | z | z
    · have := ks.mp z
      rw [hq] at this
      rcases Int.lt_trichotomy 0 q with y | y | y
      · exact y
      · rw [← y, Int.mul_zero] at this; omega
      · have := Int.mul_neg_of_pos_of_neg z y; omega
    · exact absurd z.symm hk
    · have h1 : ¬ 0 < u := fun y => by have := ks.mpr y; omega
      have h2 : u < 0 := by omega
      rw [hq] at h2
      rcases Int.lt_trichotomy 0 q with y | y | y
      · exact y
      · rw [← y, Int.mul_zero] at h2; omega
      · have := Int.mul_pos_of_neg_of_neg z y; omega
  · have e3 : Int.gcd t u = (frk t u).natAbs * Int.gcd p q := by
      generalize frk t u = k at *
      rw [hp, hq]
      exact Int.gcd_mul_left _ _ _
    rw [ka] at e3
    have e4 : Int.gcd t u * 1 = Int.gcd t u * Int.gcd p q := by rw [Nat.mul_one]; exact e3
    exact (Nat.eq_of_mul_eq_mul_left (by omega) e4).symm
theorem dvd_cop {a b c : Int} (h : a ∣ b * c) (g : Int.gcd b a = 1) : a ∣ c := by
  have h1 : a.natAbs ∣ b.natAbs * c.natAbs := by rw [← Int.natAbs_mul]; exact Int.natAbs_dvd_natAbs.mpr h
  have g1 : Nat.Coprime a.natAbs b.natAbs := by rw [Nat.coprime_comm]; exact g
  exact Int.natAbs_dvd_natAbs.mp (Nat.Coprime.dvd_of_dvd_mul_left g1 h1)
theorem fr_uniq {p q p' q' : Int} (hq : 0 < q) (hq' : 0 < q') (h : Int.gcd p q = 1) (h' : Int.gcd p' q' = 1) (e : p * q' = p' * q) : p = p' ∧ q = q' := by
  have d1 : q ∣ q' := by
    have : q ∣ p * q' := ⟨p', by rw [e, Int.mul_comm]⟩
    exact dvd_cop this h
  have d2 : q' ∣ q := by
    have : q' ∣ p' * q := ⟨p, by rw [← e, Int.mul_comm]⟩
    exact dvd_cop this h'
  have e1 : q = q' := Int.dvd_antisymm (Int.le_of_lt hq) (Int.le_of_lt hq') d1 d2
  subst e1
  exact ⟨Int.eq_of_mul_eq_mul_right (by omega) e, rfl⟩
theorem fr_eq2 {t u t' u' : Int} (hu : u ≠ 0) (hu' : u' ≠ 0) (e : t * u' = t' * u) : frN t u = frN t' u' ∧ frD t u = frD t' u' := by
  obtain ⟨k, hk, h1, h2, h3, h4⟩ := @fr_split t u hu
  obtain ⟨k', hk', h1', h2', h3', h4'⟩ := @fr_split t' u' hu'
  refine fr_uniq h3 h3' h4 h4' ?_
  generalize frN t u = p at *
  generalize frD t u = q at *
  generalize frN t' u' = p' at *
  generalize frD t' u' = q' at *
  subst h1 h2 h1' h2'
  have : (k * k') * (p * q') = (k * k') * (p' * q) := by grind
  exact Int.eq_of_mul_eq_mul_left (Int.mul_ne_zero hk hk') this
theorem fr_eq {t u t' u' : Int} (hu : u ≠ 0) (hu' : u' ≠ 0) (e : t * u' = t' * u) : frV t u = frV t' u' := by
  unfold frV
  rw [(fr_eq2 hu hu' e).1, (fr_eq2 hu hu' e).2]
theorem fr_self {p q : Int} (hq : 0 < q) (h : Int.gcd p q = 1) : frN p q = p ∧ frD p q = q := by
  unfold frN frD frk
  rw [if_pos hq, h]
  simp
theorem fr_cross {t u : Int} (hu : u ≠ 0) : t * frD t u = frN t u * u := by
  obtain ⟨k, hk, h1, h2, h3, h4⟩ := @fr_split t u hu
  generalize frN t u = p at *
  generalize frD t u = q at *
  subst h1 h2
  grind
theorem fr_le {t u : Int} {m : Nat} (hu : u ≠ 0) (h1 : t.natAbs ≤ m) (h2 : u.natAbs ≤ m) : (frN t u).natAbs ≤ m ∧ (frD t u).natAbs ≤ m := by
  obtain ⟨k, hk, e1, e2, h3, h4⟩ := @fr_split t u hu
  generalize frN t u = p at *
  generalize frD t u = q at *
  subst e1 e2
  exact ⟨le_of_mul hk h1, le_of_mul hk h2⟩
/-! ### mirrors -/
theorem tid_mul {m a b c d : Int} (hm : m ≠ 0) (h : by4 a b c d = 1) : tidV (m * a) (m * b) (m * c) (m * d) = .tup [.int a, .int b, .int c, .int d] := by
  have f : 0 < fst4 a b c d ∧ gcd4 a b c d = 1 := by
    unfold by4 at h
    split at h
    · rename_i q; exact ⟨q, by omega⟩
    · omega
  have e : by4 (m * a) (m * b) (m * c) (m * d) = m := by
    unfold by4
    rw [fst4_mul hm, gcd4_mul, f.2, Nat.mul_one]
    rcases Int.lt_trichotomy 0 m with z | z | z
    · rw [if_pos (Int.mul_pos z f.1)]; omega
    · exact absurd z.symm hm
    · have := Int.mul_neg_of_neg_of_pos z f.1
      rw [if_neg (by omega)]; omega
  unfold tidV
  rw [e, Int.mul_fdiv_cancel_left _ hm, Int.mul_fdiv_cancel_left _ hm, Int.mul_fdiv_cancel_left _ hm, Int.mul_fdiv_cancel_left _ hm]
/-- one number of the mirrored four -/
def mi (own by' x y : Int) : Int := own * x - by' * y
/-- the four, mirrored -/
structure Q where
  a : Int
  b : Int
  c : Int
  d : Int
def Q.pr (p q : Q) : Int := prV p.a p.b p.c p.d q.a q.b q.c q.d
def Q.mul (k : Int) (p : Q) : Q := ⟨k * p.a, k * p.b, k * p.c, k * p.d⟩
def Q.mir (p g : Q) : Q := ⟨g.pr g * p.a - 2 * p.pr g * g.a, g.pr g * p.b - 2 * p.pr g * g.b, g.pr g * p.c - 2 * p.pr g * g.c, g.pr g * p.d - 2 * p.pr g * g.d⟩
def Q.t (p : Q) : D := .tup [.int p.a, .int p.b, .int p.c, .int p.d]
def Q.tid (p : Q) : D := tidV p.a p.b p.c p.d
theorem Q.ext {p q : Q} (h1 : p.a = q.a) (h2 : p.b = q.b) (h3 : p.c = q.c) (h4 : p.d = q.d) : p = q := by
  cases p; cases q; simp_all
theorem pr_mulL {k : Int} {p q : Q} : (Q.mul k p).pr q = k * p.pr q := by
  unfold Q.pr Q.mul prV
  grind
theorem pr_comm {p q : Q} : p.pr q = q.pr p := by
  unfold Q.pr prV
  grind
theorem pr_mulR {k : Int} {p q : Q} : p.pr (Q.mul k q) = k * p.pr q := by
  unfold Q.pr Q.mul prV
  grind
theorem mir_mul {k : Int} {p g : Q} : (Q.mul k p).mir g = Q.mul k (p.mir g) := by
  refine Q.ext ?_ ?_ ?_ ?_ <;> (simp only [Q.mir, pr_mulL]; simp only [Q.mul]; grind)
theorem pr_mirL {p q g : Q} : (p.mir g).pr q = g.pr g * p.pr q - 2 * p.pr g * g.pr q := by
  simp only [Q.mir]
  generalize g.pr g = w
  generalize p.pr g = v
  unfold Q.pr prV
  grind
theorem mir_mir {p g : Q} : (p.mir g).mir g = Q.mul (g.pr g * g.pr g) p := by
  have e := @pr_mirL p g g
  unfold Q.mir at e ⊢
  generalize hw : g.pr g = w at *
  generalize hv : p.pr g = v at *
  rw [e]
  refine Q.ext ?_ ?_ ?_ ?_ <;> (simp only [Q.mul]; grind)
theorem pr_mir {p q g : Q} : (p.mir g).pr (q.mir g) = g.pr g * g.pr g * p.pr q := by
  rw [pr_mirL, pr_comm (p := p), pr_comm (p := g) (q := q.mir g), pr_mirL, pr_mirL, pr_comm (p := q) (q := p)]
  generalize g.pr g = w
  rw [pr_comm (p := g) (q := p)]
  generalize p.pr g = v
  generalize q.pr g = u
  generalize p.pr q = z
  grind
theorem mir_self {g : Q} : g.mir g = Q.mul (0 - g.pr g) g := by
  unfold Q.mir
  generalize g.pr g = w
  refine Q.ext ?_ ?_ ?_ ?_ <;> (simp only [Q.mul]; grind)
end Cm

/-! more steps for simp: cells of the frame, slices, displays read -/
namespace Cm
open PySem PySem.Spec PyProof.Rows L2
section
variable {L : Lw} {c : Ce} {b i j k m n f : Nat} {a d e a1 a2 a3 : E} {fr fr1 : Fr} {S S1 S2 : Sto} {s t u : Sl} {x y z : D} {xs ys acc : List D} {l : List Sl} {ws : List Nat} {g : Tg} {r q : T} {o o2 : Co} {p : Bool} {bo : Bo} {fb : Bf} {v v1 v2 v3 w : Cl}
def kM1 (b i k : Nat) (fr : Fr) : Option (Xr × Sto) → Option (Rr × Fr × Sto)
  | some (.v (.d (.lst xs)), S1) => if Nat.blt (b + k) S1.length && noref (b + k) (fr.set i .un) then some (.nx, fr.set i (.ref (b + k)), S1.set (b + k) (.live (.lst xs))) else none
  | some (.rz n, S) => some (.rz n, fr, S)
  | _ => none
theorem t_asgM : evT L c b (.asgM i k e) fr S = kM1 b i k fr (evE L c e fr S) := by
  show bndE fr (evE L c e fr S) _ = _
  rcases evE L c e fr S with _ | ⟨_ | _ | _, S1⟩ <;> try rfl
  rename_i s
  rcases s with _ | x | _ <;> try rfl
  cases x <;> rfl
def kM2 (b i k : Nat) (fr : Fr) (xs : List D) (S1 : Sto) : Bool → Bool → Option (Rr × Fr × Sto)
  | true, true => some (.nx, fr.set i (.ref (b + k)), S1.set (b + k) (.live (.lst xs)))
  | _, _ => none
theorem kM1_l : kM1 b i k fr (some (.v (.d (.lst xs)), S1)) = kM2 b i k fr xs S1 (Nat.blt (b + k) (List.length S1)) (noref (b + k) (fr.set i .un)) := by
  show (if (_ && _) = true then _ else _) = _
  cases Nat.blt (b + k) (List.length S1) <;> cases noref (b + k) (fr.set i .un) <;> rfl
theorem kM2_t : kM2 b i k fr xs S1 true true = some (.nx, fr.set i (.ref (b + k)), S1.set (b + k) (.live (.lst xs))) := rfl
theorem kM1_r : kM1 b i k fr (some (.rz n, S)) = some (.rz n, fr, S) := rfl
theorem nr_nil : noref m [] = true := rfl
theorem nr_d : noref m (.d x :: l) = noref m l := rfl
theorem nr_u : noref m (.un :: l) = noref m l := rfl
theorem nr_r : noref m (.ref j :: l) = (!Nat.beq j m && noref m l) := rfl
theorem bq_0 : Nat.beq 0 (n + 1) = false := rfl
theorem bq_0a : Nat.beq 0 (n + 1 + k) = false := by
  rw [show n + 1 + k = (n + k) + 1 by omega]; rfl
theorem bl_1 : Nat.blt (List.length S) (List.length (S ++ [v])) = true := Nat.blt_eq.mpr (by simp)
theorem bl_1z : Nat.blt (List.length S + 0) (List.length (S ++ [v])) = true := Nat.blt_eq.mpr (by simp)
theorem bl_2 : Nat.blt (List.length S) (List.length (S ++ [v, v1])) = true := Nat.blt_eq.mpr (by simp)
theorem bl_2z : Nat.blt (List.length S + 0) (List.length (S ++ [v, v1])) = true := Nat.blt_eq.mpr (by simp)
theorem bl_21 : Nat.blt (List.length S + 1) (List.length (S ++ [v, v1])) = true := Nat.blt_eq.mpr (by simp)
theorem bl_c1 : Nat.blt (List.length S + 1) (List.length (w :: (S ++ [v]))) = true := Nat.blt_eq.mpr (by simp)
theorem bl_c1z : Nat.blt (List.length S + 1 + 0) (List.length (w :: (S ++ [v]))) = true := Nat.blt_eq.mpr (by simp)
theorem bl_c1y : Nat.blt (List.length S + 1) (List.length (S ++ [v]) + 1) = true := Nat.blt_eq.mpr (by simp)
theorem bl_c1x : Nat.blt (List.length S + 1 + 0) (List.length (S ++ [v]) + 1) = true := Nat.blt_eq.mpr (by simp)
theorem bl_c2 : Nat.blt (List.length S + 1) (List.length (S ++ [v, v1]) + 1) = true := Nat.blt_eq.mpr (by simp)
theorem bl_c2z : Nat.blt (List.length S + 1 + 0) (List.length (S ++ [v, v1]) + 1) = true := Nat.blt_eq.mpr (by simp)
theorem bl_c21 : Nat.blt (List.length S + 1 + 1) (List.length (S ++ [v, v1]) + 1) = true := Nat.blt_eq.mpr (by simp)
theorem g_1 : (S ++ [v])[List.length S]? = some v := by simp
theorem g_2 : (S ++ [v, v1])[List.length S]? = some v := by simp
theorem g_21 : (S ++ [v, v1])[List.length S + 1]? = some v1 := by simp
theorem s_1 : (S ++ [v]).set (List.length S) w = S ++ [w] := by simp
theorem s_2 : (S ++ [v, v1]).set (List.length S) w = S ++ [w, v1] := by simp
theorem s_21 : (S ++ [v, v1]).set (List.length S + 1) w = S ++ [v, w] := by simp
def kP3 (fr : Fr) (j : Nat) : Option (Xr × Sto) → Option (Rr × Fr × Sto)
  | some (.v (.d y), S2) => kAp3 fr j y S2 S2[j]?
  | some (.rz n, S) => some (.rz n, fr, S)
  | _ => none
def kP2 (L : Lw) (c : Ce) (d : E) (fr : Fr) (j : Nat) (S1 : Sto) : Option Cl → Option (Rr × Fr × Sto)
  | some (.live (.lst _)) => kP3 fr j (evE L c d fr S1)
  | _ => none
def kP1 (L : Lw) (c : Ce) (d : E) (fr : Fr) : Option (Xr × Sto) → Option (Rr × Fr × Sto)
  | some (.v (.ref j), S1) => kP2 L c d fr j S1 S1[j]?
  | some (.rz n, S) => some (.rz n, fr, S)
  | _ => none
theorem t_apd2 : evT L c b (.apd a d) fr S = kP1 L c d fr (evE L c a fr S) := by
  show bndE fr (evE L c a fr S) _ = _
  rcases evE L c a fr S with _ | ⟨_ | _ | _, S1⟩ <;> try rfl
  rename_i s
  rcases s with _ | x | j <;> try rfl
  show (match S1[j]? with
    | some (.live (.lst _)) => _
    | _ => none) = kP2 L c d fr j S1 S1[j]?
  rcases S1[j]? with _ | ⟨_ | x | x⟩ <;> try rfl
  cases x <;> try rfl
  show bndE fr (evE L c d fr S1) _ = kP3 fr j (evE L c d fr S1)
  rcases evE L c d fr S1 with _ | ⟨_ | _ | _, S2⟩ <;> try rfl
  rename_i s
  rcases s with _ | x | _ <;> try rfl
def kAp4 (fr : Fr) (j : Nat) (y : D) (S : Sto) (xs : List D) : Bool → Option (Rr × Fr × Sto)
  | true => some (.nx, fr, S.set j (.live (.lst (xs ++ [y]))))
  | false => none
theorem kAp3_u : kAp3 fr j y S (some (.live (.lst xs))) = kAp4 fr j y S xs (Nat.ble (List.length xs) 1000000) := by
  show (if _ = true then _ else _) = _
  cases Nat.ble (List.length xs) 1000000 <;> rfl
theorem kAp4_t : kAp4 fr j y S xs true = some (.nx, fr, S.set j (.live (.lst (xs ++ [y])))) := rfl
theorem kP1_v : kP1 L c d fr (some (.v (.ref j), S)) = kP2 L c d fr j S S[j]? := rfl
theorem kP1_r : kP1 L c d fr (some (.rz n, S)) = some (.rz n, fr, S) := rfl
theorem kP2_l : kP2 L c d fr j S (some (.live (.lst xs))) = kP3 fr j (evE L c d fr S) := rfl
theorem kP3_v : kP3 fr j (some (.v (.d y), S)) = kAp3 fr j y S S[j]? := rfl
theorem kP3_r : kP3 fr j (some (.rz n, S)) = some (.rz n, fr, S) := rfl
/-! the end of a def with cells -/
theorem e_ok1 {fr : Fr} {x : D} {v : Cl} : ends (List.length S) (some (.ret x, fr, S ++ [v])) = some (.ok x, S) := by simp [ends]
theorem e_nx1 {fr : Fr} {v : Cl} : ends (List.length S) (some (.nx, fr, S ++ [v])) = some (.ok .non, S) := by simp [ends]
theorem e_ok2 {fr : Fr} {x : D} : ends (List.length S) (some (.ret x, fr, S ++ [v, v1])) = some (.ok x, S) := by simp [ends]
theorem e_rz2 {fr : Fr} : ends (List.length S) (some (.rz k, fr, S ++ [v, v1])) = some (.rz k, S) := by simp [ends]
theorem e_ok1c {fr : Fr} {x : D} : ends (List.length S + 1) (some (.ret x, fr, w :: (S ++ [v]))) = some (.ok x, w :: S) := by simp [ends]
theorem e_ok2c {fr : Fr} {x : D} : ends (List.length S + 1) (some (.ret x, fr, w :: (S ++ [v, v1]))) = some (.ok x, w :: S) := by simp [ends]
theorem call_1 {Pr : List Fn} {p q : Nat} {bd : T} {as : List Sl} (h : Pr[f]? = some ⟨p, q, 1, bd⟩) (hl : as.length = p) : callE L Pr (n + 1) f as S = ends S.length (evT L (callE L Pr n) S.length bd (as ++ List.replicate (q - p) .un) (S ++ [.dead])) := call_s h hl
theorem call_2 {Pr : List Fn} {p q : Nat} {bd : T} {as : List Sl} (h : Pr[f]? = some ⟨p, q, 2, bd⟩) (hl : as.length = p) : callE L Pr (n + 1) f as S = ends S.length (evT L (callE L Pr n) S.length bd (as ++ List.replicate (q - p) .un) (S ++ [.dead, .dead])) := call_s h hl
def kC3 (L : Lw) (c : Ce) (ws : List Nat) (g : Tg) (d e : E) (fr : Fr) (S : Sto) (xs : List D) : Bool → Option (Xr × Sto)
  | true => compL (stepC L c g d e (wipeS fr ws)) xs [] S
  | false => none
theorem kC2_u : kC2 L c ws g d e fr S (some xs) = kC3 L c ws g d e fr S xs (Nat.ble (List.length xs) 100000) := by
  cases h : Nat.ble (List.length xs) 100000 with
  | true => exact kC2_s h
  | false =>
    show (if _ = true then _ else _) = _
    rw [h]
    rfl
theorem kC3_t : kC3 L c ws g d e fr S xs true = compL (stepC L c g d e (wipeS fr ws)) xs [] S := rfl
/-! a display read -/
def kD2 (ks : List Int) (xs : List D) : Option (Xr × Sto) → Option (Xr × Sto)
  | some (.v (.d y), S2) => outD S2 (dselD ks y xs)
  | some (.rz n, S2) => some (.rz n, S2)
  | _ => none
def kD1 (L : Lw) (c : Ce) (ks : List Int) (a : E) (fr : Fr) : Option (Xr × Sto) → Option (Xr × Sto)
  | some (.vs l, S1) => (match datL l with
    | some xs => kD2 ks xs (evE L c a fr S1)
    | none => none)
  | some (.rz n, S1) => some (.rz n, S1)
  | _ => none
theorem e_dsel {ks : List Int} : evE L c (.dsel ks d a) fr S = kD1 L c ks a fr (evE L c d fr S) := by
  show bndL (evE L c d fr S) _ = _
  rcases evE L c d fr S with _ | ⟨_ | l | _, S1⟩ <;> try rfl
  show (match datL l with
    | some xs => bnd (evE L c a fr S1) _
    | none => none) = (match datL l with
    | some xs => kD2 ks xs (evE L c a fr S1)
    | none => none)
  cases datL l with
  | none => rfl
  | some xs =>
    show bnd (evE L c a fr S1) _ = kD2 ks xs (evE L c a fr S1)
    rcases evE L c a fr S1 with _ | ⟨_ | _ | _, S2⟩ <;> try rfl
    rename_i s
    cases s <;> rfl
theorem kD1_v {ks : List Int} (h : datL l = some xs) : kD1 L c ks a fr (some (.vs l, S)) = kD2 ks xs (evE L c a fr S) := by
  show (match datL l with
    | some xs => kD2 ks xs (evE L c a fr S)
    | none => none) = _
  rw [h]
theorem kD2_v {ks : List Int} : kD2 ks xs (some (.v (.d y), S)) = outD S (dselD ks y xs) := rfl
/-! list.count, list.index -/
def kMt4 (fb : Bf) (S : Sto) : Option D → Option D → Option (Xr × Sto)
  | some x, some y => outD S (mthD fb x y)
  | _, _ => none
def kMt3 (fb : Bf) (s : Sl) : Option (Xr × Sto) → Option (Xr × Sto)
  | some (.v t, S2) => kMt4 fb S2 (peek S2 s) (peek S2 t)
  | some (.rz n, S2) => some (.rz n, S2)
  | _ => none
def kMt2 (L : Lw) (c : Ce) (fb : Bf) (d : E) (fr : Fr) (s : Sl) (S1 : Sto) : Option D → Option (Xr × Sto)
  | some (.lst _) => kMt3 fb s (evE L c d fr S1)
  | _ => none
def kMt1 (L : Lw) (c : Ce) (fb : Bf) (d : E) (fr : Fr) : Option (Xr × Sto) → Option (Xr × Sto)
  | some (.v s, S1) => kMt2 L c fb d fr s S1 (peek S1 s)
  | some (.rz n, S1) => some (.rz n, S1)
  | _ => none
theorem e_mth : evE L c (.mth fb a d) fr S = kMt1 L c fb d fr (evE L c a fr S) := by
  show bnd (evE L c a fr S) _ = _
  rcases evE L c a fr S with _ | ⟨_ | _ | _, S1⟩ <;> try rfl
  rename_i s
  show (match peek S1 s with
    | some (.lst _) => bnd (evE L c d fr S1) _
    | _ => none) = kMt2 L c fb d fr s S1 (peek S1 s)
  cases h : peek S1 s with
  | none => rfl
  | some x =>
    cases x <;> try rfl
    show bnd (evE L c d fr S1) _ = kMt3 fb s (evE L c d fr S1)
    rcases evE L c d fr S1 with _ | ⟨_ | _ | _, S2⟩ <;> try rfl
    rename_i t
    show pk2 S2 s t _ = kMt4 fb S2 (peek S2 s) (peek S2 t)
    unfold pk2 pk1
    cases peek S2 s <;> cases peek S2 t <;> rfl
theorem kMt1_v : kMt1 L c fb d fr (some (.v s, S)) = kMt2 L c fb d fr s S (peek S s) := rfl
theorem kMt2_l : kMt2 L c fb d fr s S (some (.lst xs)) = kMt3 fb s (evE L c d fr S) := rfl
theorem kMt3_v : kMt3 fb s (some (.v t, S)) = kMt4 fb S (peek S s) (peek S t) := rfl
theorem kMt4_s : kMt4 fb S (some x) (some y) = outD S (mthD fb x y) := rfl
/-! built-ins -/
theorem l_any4 {a b c d : Bool} : bltD L .any [.lst [.bl a, .bl b, .bl c, .bl d]] = some (.bl (a || (b || (c || (d || false))))) := rfl
theorem l_all4 {a b c d : Bool} : bltD L .all [.lst [.bl a, .bl b, .bl c, .bl d]] = some (.bl (a && (b && (c && (d && true))))) := rfl
theorem ist_s0 {x : Str} : bltD L (.ist 0) [.str x] = some (.bl true) := rfl
theorem ist_i0 {x : Int} : bltD L (.ist 0) [.int x] = some (.bl false) := rfl
theorem tr_bl : truD (.bl p) = some p := rfl
theorem is_nn : iscD .non .non = some true := rfl
theorem is_bn : iscD (.bl p) .non = some false := rfl
theorem is_in {x : Int} : iscD (.int x) .non = some false := rfl
theorem is_tn : iscD (.tup xs) .non = some false := rfl
theorem is_ln : iscD (.lst xs) .non = some false := rfl
theorem is_sn {x : Str} : iscD (.str x) .non = some false := rfl
theorem nb0 : Nat.ble 0 1000000 = true := rfl
theorem nc0 : Nat.ble 0 100000 = true := rfl
theorem nb1 : Nat.ble 1 1000000 = true := rfl
theorem nc1 : Nat.ble 1 100000 = true := rfl
theorem nb2 : Nat.ble 2 1000000 = true := rfl
theorem nc2 : Nat.ble 2 100000 = true := rfl
theorem nb3 : Nat.ble 3 1000000 = true := rfl
theorem nc3 : Nat.ble 3 100000 = true := rfl
theorem nb4 : Nat.ble 4 1000000 = true := rfl
theorem nc4 : Nat.ble 4 100000 = true := rfl
theorem nb5 : Nat.ble 5 1000000 = true := rfl
theorem nc5 : Nat.ble 5 100000 = true := rfl
theorem nb6 : Nat.ble 6 1000000 = true := rfl
theorem nc6 : Nat.ble 6 100000 = true := rfl
theorem nb7 : Nat.ble 7 1000000 = true := rfl
theorem nc7 : Nat.ble 7 100000 = true := rfl
theorem nb8 : Nat.ble 8 1000000 = true := rfl
theorem nc8 : Nat.ble 8 100000 = true := rfl
theorem nb9 : Nat.ble 9 1000000 = true := rfl
theorem nc9 : Nat.ble 9 100000 = true := rfl
theorem nb10 : Nat.ble 10 1000000 = true := rfl
theorem nc10 : Nat.ble 10 100000 = true := rfl
theorem nb11 : Nat.ble 11 1000000 = true := rfl
theorem nc11 : Nat.ble 11 100000 = true := rfl
theorem nb12 : Nat.ble 12 1000000 = true := rfl
theorem nc12 : Nat.ble 12 100000 = true := rfl
theorem nb13 : Nat.ble 13 1000000 = true := rfl
theorem nc13 : Nat.ble 13 100000 = true := rfl
theorem nb14 : Nat.ble 14 1000000 = true := rfl
theorem nc14 : Nat.ble 14 100000 = true := rfl
theorem nb15 : Nat.ble 15 1000000 = true := rfl
theorem nc15 : Nat.ble 15 100000 = true := rfl
theorem nb16 : Nat.ble 16 1000000 = true := rfl
theorem nc16 : Nat.ble 16 100000 = true := rfl
theorem nb17 : Nat.ble 17 1000000 = true := rfl
theorem nc17 : Nat.ble 17 100000 = true := rfl
theorem nb18 : Nat.ble 18 1000000 = true := rfl
theorem nc18 : Nat.ble 18 100000 = true := rfl
theorem nb19 : Nat.ble 19 1000000 = true := rfl
theorem nc19 : Nat.ble 19 100000 = true := rfl
theorem nb20 : Nat.ble 20 1000000 = true := rfl
theorem nc20 : Nat.ble 20 100000 = true := rfl
theorem nb21 : Nat.ble 21 1000000 = true := rfl
theorem nc21 : Nat.ble 21 100000 = true := rfl
theorem nb22 : Nat.ble 22 1000000 = true := rfl
theorem nc22 : Nat.ble 22 100000 = true := rfl
theorem nb23 : Nat.ble 23 1000000 = true := rfl
theorem nc23 : Nat.ble 23 100000 = true := rfl
theorem nb24 : Nat.ble 24 1000000 = true := rfl
theorem nc24 : Nat.ble 24 100000 = true := rfl
theorem nb25 : Nat.ble 25 1000000 = true := rfl
theorem nc25 : Nat.ble 25 100000 = true := rfl
theorem nb26 : Nat.ble 26 1000000 = true := rfl
theorem nc26 : Nat.ble 26 100000 = true := rfl
theorem nb27 : Nat.ble 27 1000000 = true := rfl
theorem nc27 : Nat.ble 27 100000 = true := rfl
theorem nb28 : Nat.ble 28 1000000 = true := rfl
theorem nc28 : Nat.ble 28 100000 = true := rfl
theorem nb29 : Nat.ble 29 1000000 = true := rfl
theorem nc29 : Nat.ble 29 100000 = true := rfl
theorem nb30 : Nat.ble 30 1000000 = true := rfl
theorem nc30 : Nat.ble 30 100000 = true := rfl
theorem nb31 : Nat.ble 31 1000000 = true := rfl
theorem nc31 : Nat.ble 31 100000 = true := rfl
theorem nb32 : Nat.ble 32 1000000 = true := rfl
theorem nc32 : Nat.ble 32 100000 = true := rfl
theorem nb33 : Nat.ble 33 1000000 = true := rfl
theorem nc33 : Nat.ble 33 100000 = true := rfl
theorem nb34 : Nat.ble 34 1000000 = true := rfl
theorem nc34 : Nat.ble 34 100000 = true := rfl
theorem nb35 : Nat.ble 35 1000000 = true := rfl
theorem nc35 : Nat.ble 35 100000 = true := rfl
theorem nb36 : Nat.ble 36 1000000 = true := rfl
theorem nc36 : Nat.ble 36 100000 = true := rfl
theorem nb37 : Nat.ble 37 1000000 = true := rfl
theorem nc37 : Nat.ble 37 100000 = true := rfl
theorem nb38 : Nat.ble 38 1000000 = true := rfl
theorem nc38 : Nat.ble 38 100000 = true := rfl
theorem nb39 : Nat.ble 39 1000000 = true := rfl
theorem nc39 : Nat.ble 39 100000 = true := rfl
theorem nb40 : Nat.ble 40 1000000 = true := rfl
theorem nc40 : Nat.ble 40 100000 = true := rfl
theorem nbM0 : Nat.ble (List.length ([] : List D)) 1000000 = true := rfl
theorem nbM1 {x : D} : Nat.ble (List.length [x]) 1000000 = true := rfl
theorem nbM2 {x y : D} : Nat.ble (List.length [x, y]) 1000000 = true := rfl
theorem nbM3 {x y z : D} : Nat.ble (List.length [x, y, z]) 1000000 = true := rfl
theorem nbM4 {x y z w : D} : Nat.ble (List.length [x, y, z, w]) 1000000 = true := rfl
theorem nbM5 {x y z w v : D} : Nat.ble (List.length [x, y, z, w, v]) 1000000 = true := rfl
theorem nbN0 : Nat.ble (List.length ([] : List D)) 100000 = true := rfl
theorem nbN1 {x : D} : Nat.ble (List.length [x]) 100000 = true := rfl
theorem nbN5 {x y z w v : D} : Nat.ble (List.length [x, y, z, w, v]) 100000 = true := rfl
theorem nbN6 {x y z w v u : D} : Nat.ble (List.length [x, y, z, w, v, u]) 100000 = true := rfl
theorem r1_0 : kR1 (some (.v (.d (.int 0)), S)) = some (.v (.d (.lst [])), S) := by kernel_rfl
theorem r1_1 : kR1 (some (.v (.d (.int 1)), S)) = some (.v (.d (.lst [.int 0])), S) := by kernel_rfl
theorem r1_2 : kR1 (some (.v (.d (.int 2)), S)) = some (.v (.d (.lst [.int 0, .int 1])), S) := by kernel_rfl
theorem r1_3 : kR1 (some (.v (.d (.int 3)), S)) = some (.v (.d (.lst [.int 0, .int 1, .int 2])), S) := by kernel_rfl
theorem r1_4 : kR1 (some (.v (.d (.int 4)), S)) = some (.v (.d (.lst [.int 0, .int 1, .int 2, .int 3])), S) := by kernel_rfl
theorem r1_5 : kR1 (some (.v (.d (.int 5)), S)) = some (.v (.d (.lst [.int 0, .int 1, .int 2, .int 3, .int 4])), S) := by kernel_rfl
theorem r1_6 : kR1 (some (.v (.d (.int 6)), S)) = some (.v (.d (.lst [.int 0, .int 1, .int 2, .int 3, .int 4, .int 5])), S) := by kernel_rfl
theorem rgl_1 : rngL 0 1 = [.int 0] := by kernel_rfl
theorem rgl_2 : rngL 0 2 = [.int 0, .int 1] := by kernel_rfl
theorem rgl_3 : rngL 0 3 = [.int 0, .int 1, .int 2] := by kernel_rfl
theorem rgl_4 : rngL 0 4 = [.int 0, .int 1, .int 2, .int 3] := by kernel_rfl
theorem md_1 : mid 1 = true := by decide
theorem md_2 : mid 2 = true := by decide
theorem md_3 : mid 3 = true := by decide
theorem md_4 : mid 4 = true := by decide
end
end Cm

namespace Lq
open PySem PySem.Spec PyProof.Rows L2 Cm

def top (i : Nat) : Stmt := PySem.Challenge.pw_circlemirrors_k11_whole_exchanging.main.body.getD i (.Pass ⟨0, 0, 0, 0⟩)
def i_divisor : T := (.seq (.whl (.tru (.arg 1)) (.par 0 1 (.var 1) (.bin .mod (.arg 0) (.arg 1)))) (.ret (.blt .abs (.cons (.arg 0) .nil))))
def i_least : T := (.seq (.ite (.cmp .lt (.arg 1) (.lit (.int 0))) (.par 0 1 (.bin .sub (.lit (.int 0)) (.arg 0)) (.bin .sub (.lit (.int 0)) (.arg 1))) .nop) (.seq (.asg (.nm 2) (.call 0 (.cons (.arg 0) (.cons (.arg 1) .nil)))) (.ret (.tup (.cons (.bin .fdiv (.arg 0) (.arg 2)) (.cons (.bin .fdiv (.arg 1) (.arg 2)) .nil))))))
def i_root_of : T := (.seq (.ite (.cmp .lt (.arg 0) (.lit (.int 0))) (.ret (.lit (.non))) .nop) (.seq (.asg (.nm 1) (.lit (.int 0))) (.seq (.asg (.nm 2) (.bin .add (.arg 0) (.lit (.int 1)))) (.seq (.whl (.cmp .lt (.bin .add (.arg 1) (.lit (.int 1))) (.arg 2)) (.seq (.asg (.nm 3) (.bin .fdiv (.bin .add (.arg 1) (.arg 2)) (.lit (.int 2)))) (.ite (.cmp .le (.bin .mul (.arg 3) (.arg 3)) (.arg 0)) (.asg (.nm 1) (.var 3)) (.asg (.nm 2) (.var 3))))) (.ret (.ifx (.cmp .eq (.bin .mul (.arg 1) (.arg 1)) (.arg 0)) (.var 1) (.lit (.non))))))))
def i_tidy : T := (.seq (.asg (.nm 1) (.lit (.int 0))) (.seq (.for (.nm 2) (.var 0) (.asg (.nm 1) (.call 0 (.cons (.arg 2) (.cons (.arg 1) .nil))))) (.seq (.asg (.nm 3) (.idx (.comp [2] (.nm 2) (.var 0) (.cmp .ne (.arg 2) (.lit (.int 0))) (.var 2)) (.lit (.int 0)))) (.seq (.asg (.nm 1) (.ifx (.cmp .gt (.arg 3) (.lit (.int 0))) (.var 1) (.bin .sub (.lit (.int 0)) (.arg 1)))) (.ret (.blt .tuple (.cons (.comp [2] (.nm 2) (.var 0) (.lit (.bl true)) (.bin .fdiv (.arg 2) (.arg 1))) .nil)))))))
def i_product : T := (.ret (.bin .sub (.bin .sub (.bin .add (.bin .mul (.idx (.arg 0) (.lit (.int 1))) (.idx (.arg 1) (.lit (.int 1)))) (.bin .mul (.idx (.arg 0) (.lit (.int 2))) (.idx (.arg 1) (.lit (.int 2))))) (.bin .mul (.bin .mul (.lit (.int 2)) (.idx (.arg 0) (.lit (.int 0)))) (.idx (.arg 1) (.lit (.int 3))))) (.bin .mul (.bin .mul (.lit (.int 2)) (.idx (.arg 0) (.lit (.int 3)))) (.idx (.arg 1) (.lit (.int 0))))))
def i_look_circle : T := (.seq (.ite (.or (.cmp .ne (.blt .len (.cons (.arg 0) .nil)) (.lit (.int 4))) (.not (.tru (.blt .all (.cons (.comp [1] (.nm 1) (.var 0) (.lit (.bl true)) (.chn .le .le (.bin .sub (.lit (.int 0)) (.lit (.int 1000000000))) (.arg 1) (.lit (.int 1000000000)))) .nil))))) (.rse 1) .nop) (.ite (.or (.cmp .le (.call 4 (.cons (.arg 0) (.cons (.arg 0) .nil))) (.lit (.int 0))) (.cmp .ne (.call 3 (.cons (.arg 0) .nil)) (.arg 0))) (.rse 1) .nop))
def i_mirror : T := (.seq (.asg (.nm 2) (.call 4 (.cons (.arg 1) (.cons (.arg 1) .nil)))) (.seq (.asg (.nm 3) (.bin .mul (.lit (.int 2)) (.call 4 (.cons (.arg 0) (.cons (.arg 1) .nil))))) (.ret (.comp [4] (.nm 4) (.rng1 (.lit (.int 4))) (.lit (.bl true)) (.bin .sub (.bin .mul (.arg 2) (.idx (.arg 0) (.arg 4))) (.bin .mul (.arg 3) (.idx (.arg 1) (.arg 4))))))))
def i_mirrored : T := (.seq (.exp (.call 5 (.cons (.arg 0) .nil))) (.seq (.exp (.call 5 (.cons (.arg 1) .nil))) (.ret (.call 3 (.cons (.call 6 (.cons (.arg 0) (.cons (.arg 1) .nil))) .nil)))))
def i_meeting : T := (.seq (.exp (.call 5 (.cons (.arg 0) .nil))) (.seq (.exp (.call 5 (.cons (.arg 1) .nil))) (.seq (.ite (.cmp .eq (.arg 0) (.arg 1)) (.ret (.lit (.str "same"))) .nop) (.seq (.asg (.nm 2) (.bin .mul (.call 4 (.cons (.arg 0) (.cons (.arg 1) .nil))) (.call 4 (.cons (.arg 0) (.cons (.arg 1) .nil))))) (.seq (.asg (.nm 3) (.bin .mul (.call 4 (.cons (.arg 0) (.cons (.arg 0) .nil))) (.call 4 (.cons (.arg 1) (.cons (.arg 1) .nil))))) (.ret (.ifx (.cmp .eq (.arg 2) (.arg 3)) (.lit (.str "touch")) (.ifx (.cmp .lt (.arg 2) (.arg 3)) (.lit (.str "cross")) (.lit (.str "apart"))))))))))
def i_slant : T := (.seq (.exp (.call 5 (.cons (.arg 0) .nil))) (.seq (.exp (.call 5 (.cons (.arg 1) .nil))) (.seq (.asg (.nm 2) (.call 4 (.cons (.arg 0) (.cons (.arg 1) .nil)))) (.ret (.call 1 (.cons (.bin .mul (.arg 2) (.arg 2)) (.cons (.bin .mul (.call 4 (.cons (.arg 0) (.cons (.arg 0) .nil))) (.call 4 (.cons (.arg 1) (.cons (.arg 1) .nil)))) .nil)))))))
def i_is_right : T := (.ret (.cmp .eq (.call 9 (.cons (.arg 0) (.cons (.arg 1) .nil))) (.tup (.cons (.lit (.int 0)) (.cons (.lit (.int 1)) .nil)))))
def i_exchanging : T := (.seq (.exp (.call 5 (.cons (.arg 0) .nil))) (.seq (.exp (.call 5 (.cons (.arg 1) .nil))) (.seq (.ite (.cmp .eq (.arg 0) (.arg 1)) (.rse 4) .nop) (.seq (.asg (.nm 2) (.call 2 (.cons (.bin .mul (.call 4 (.cons (.arg 0) (.cons (.arg 0) .nil))) (.call 4 (.cons (.arg 1) (.cons (.arg 1) .nil)))) .nil))) (.seq (.ite (.isc (.arg 2) .non true) (.rse 4) .nop) (.seq (.asg (.nm 3) (.call 4 (.cons (.arg 0) (.cons (.arg 0) .nil)))) (.seq (.asgM 4 0 (.lst .nil)) (.seq (.for (.nm 5) (.tup (.cons (.var 2) (.cons (.bin .sub (.lit (.int 0)) (.arg 2)) .nil))) (.seq (.asg (.nm 6) (.comp [7] (.nm 7) (.rng1 (.lit (.int 4))) (.lit (.bl true)) (.bin .sub (.bin .mul (.arg 5) (.idx (.arg 0) (.arg 7))) (.bin .mul (.arg 3) (.idx (.arg 1) (.arg 7)))))) (.ite (.cmp .gt (.call 4 (.cons (.arg 6) (.cons (.arg 6) .nil))) (.lit (.int 0))) (.apd (.arg 4) (.call 3 (.cons (.arg 6) .nil))) .nop))) (.ret (.blt .srt (.cons (.arg 4) .nil)))))))))))
def i_turned : T := (.seq (.exp (.call 5 (.cons (.arg 0) .nil))) (.seq (.for (.nm 2) (.var 1) (.exp (.call 5 (.cons (.arg 2) .nil)))) (.seq (.for (.nm 2) (.var 1) (.asg (.nm 0) (.call 3 (.cons (.call 6 (.cons (.arg 0) (.cons (.arg 2) .nil))) .nil)))) (.ret (.var 0)))))
def i_comes_back : T := (.seq (.exp (.call 5 (.cons (.arg 0) .nil))) (.seq (.exp (.call 5 (.cons (.arg 1) .nil))) (.seq (.exp (.call 5 (.cons (.arg 2) .nil))) (.seq (.ite (.not (.chn .le .le (.lit (.int 0)) (.arg 3) (.lit (.int 30)))) (.rse 6) .nop) (.seq (.asg (.nm 4) (.var 0)) (.seq (.for (.nm 5) (.rng2 (.lit (.int 1)) (.bin .add (.arg 3) (.lit (.int 1)))) (.seq (.asg (.nm 4) (.call 3 (.cons (.call 6 (.cons (.call 6 (.cons (.arg 4) (.cons (.arg 1) .nil))) (.cons (.arg 2) .nil))) .nil))) (.ite (.cmp .eq (.arg 4) (.arg 0)) (.ret (.var 5)) .nop))) (.ret (.lit (.non)))))))))
def i__law_cell : T := (.seq (.ite (.tru (.arg 0)) (.ret (.idx (.arg 0) (.bin .mod (.arg 1) (.blt .len (.cons (.arg 0) .nil))))) .nop) (.ret (.lit (.int 0))))
def i__law_mix : T := (.seq (.asg (.nm 2) (.bin .mod (.bin .add (.call 14 (.cons (.arg 0) (.cons (.arg 1) .nil))) (.bin .mul (.lit (.int 104729)) (.bin .add (.arg 1) (.lit (.int 1))))) (.lit (.int 4294967291)))) (.seq (.asg (.nm 2) (.bin .mod (.bin .pow (.arg 2) (.lit (.int 5))) (.lit (.int 4294967279)))) (.ret (.bin .mod (.bin .add (.bin .mul (.bin .fdiv (.arg 2) (.lit (.int 64))) (.lit (.int 69621))) (.arg 2)) (.lit (.int 4294967231))))))
def i__law_draw : T := (.seq (.apd (.arg 1) (.lit (.int 0))) (.ret (.bin .mod (.bin .fdiv (.call 15 (.cons (.arg 0) (.cons (.blt .len (.cons (.arg 1) .nil)) .nil))) (.lit (.int 8))) (.arg 2))))
def i__law_pick : T := (.ret (.idx (.arg 2) (.call 16 (.cons (.arg 0) (.cons (.arg 1) (.cons (.blt .len (.cons (.arg 2) .nil)) .nil))))))
def i__law_refusal : T := (.seq (.ite (.isc (.arg 0) .non true) (.ret (.tup (.cons (.lit (.str "ok")) .nil))) .nop) (.seq (.asgM 1 0 (.lst (.cons (.blt (.isi 1) (.cons (.arg 0) .nil)) (.cons (.blt (.isi 2) (.cons (.arg 0) .nil)) (.cons (.blt (.isi 3) (.cons (.arg 0) .nil)) .nil))))) (.seq (.asgM 1 0 (.bin .add (.arg 1) (.lst (.cons (.blt (.isi 4) (.cons (.arg 0) .nil)) (.cons (.blt (.isi 5) (.cons (.arg 0) .nil)) (.cons (.blt (.isi 6) (.cons (.arg 0) .nil)) .nil)))))) (.seq (.apd (.arg 1) (.blt (.isi 7) (.cons (.arg 0) .nil))) (.seq (.ite (.or (.cmp .ne (.mth .cnt (.arg 1) (.lit (.bl true))) (.lit (.int 1))) (.not (.tru (.blt (.isi 100) (.cons (.arg 0) .nil))))) (.ret (.tup (.cons (.lit (.str "wrong")) .nil))) .nop) (.ret (.tup (.cons (.lit (.str "refused")) (.cons (.idx (.lst (.cons (.lit (.str "circle")) (.cons (.lit (.str "point")) (.cons (.lit (.str "fraction")) (.cons (.lit (.str "none")) (.cons (.lit (.str "kiss")) (.cons (.lit (.str "number")) (.cons (.lit (.str "text")) .nil)))))))) (.mth .ix (.arg 1) (.lit (.bl true)))) .nil)))))))))
def i__law_product : T := (.seq (.asg (.nm 2) (.bin .add (.bin .mul (.idx (.arg 0) (.lit (.int 1))) (.idx (.arg 1) (.lit (.int 1)))) (.bin .mul (.idx (.arg 0) (.lit (.int 2))) (.idx (.arg 1) (.lit (.int 2)))))) (.ret (.bin .sub (.bin .sub (.arg 2) (.bin .mul (.bin .mul (.lit (.int 2)) (.idx (.arg 0) (.lit (.int 0)))) (.idx (.arg 1) (.lit (.int 3))))) (.bin .mul (.bin .mul (.lit (.int 2)) (.idx (.arg 0) (.lit (.int 3)))) (.idx (.arg 1) (.lit (.int 0)))))))
def i__law_tidy : T := (.seq (.asg (.nm 1) (.lit (.int 0))) (.seq (.for (.nm 2) (.var 0) (.seq (.asg (.nm 3) (.blt .abs (.cons (.arg 2) .nil))) (.whl (.cmp .gt (.arg 3) (.lit (.int 0))) (.asg (.cons (.nm 1) (.cons (.nm 3) .nil)) (.tup (.cons (.var 3) (.cons (.bin .mod (.arg 1) (.arg 3)) .nil))))))) (.seq (.asg (.nm 4) (.idx (.comp [2] (.nm 2) (.var 0) (.cmp .ne (.arg 2) (.lit (.int 0))) (.var 2)) (.lit (.int 0)))) (.ret (.blt .tuple (.cons (.comp [2] (.nm 2) (.var 0) (.lit (.bl true)) (.ifx (.cmp .gt (.arg 4) (.lit (.int 0))) (.bin .fdiv (.arg 2) (.arg 1)) (.bin .sub (.lit (.int 0)) (.bin .fdiv (.arg 2) (.arg 1))))) .nil))))))
def i__law_circle : T := (.seq (.asgM 2 0 (.comp [3] (.nm 3) (.rng1 (.lit (.int 4))) (.lit (.bl true)) (.bin .sub (.call 16 (.cons (.arg 0) (.cons (.arg 1) (.cons (.lit (.int 13)) .nil)))) (.lit (.int 6))))) (.seq (.ite (.cmp .eq (.call 16 (.cons (.arg 0) (.cons (.arg 1) (.cons (.lit (.int 4)) .nil)))) (.lit (.int 0))) (.setx (.arg 2) (.lit (.int 0)) (.lit (.int 0))) .nop) (.seq (.ite (.cmp .le (.call 19 (.cons (.arg 2) (.cons (.arg 2) .nil))) (.lit (.int 0))) (.asgM 2 0 (.lst (.cons (.lit (.int 1)) (.cons (.idx (.arg 2) (.lit (.int 1))) (.cons (.idx (.arg 2) (.lit (.int 2))) (.cons (.bin .sub (.bin .sub (.lit (.int 0)) (.lit (.int 1))) (.blt .abs (.cons (.idx (.arg 2) (.lit (.int 3))) .nil))) .nil)))))) .nop) (.ret (.call 20 (.cons (.arg 2) .nil))))))
def i__law_told : T := (.seq (.asg (.nm 5) (.lit (.non))) (.seq (.asg (.nm 6) (.lit (.non))) (.seq (.tryc 7 5 (.ite (.cmp .eq (.arg 0) (.lit (.int 0))) (.asg (.nm 6) (.call 11 (.cons (.arg 1) (.cons (.arg 2) .nil)))) (.asg (.nm 6) (.ifx (.cmp .eq (.arg 0) (.lit (.int 1))) (.call 12 (.cons (.arg 1) (.cons (.arg 2) .nil))) (.call 13 (.cons (.arg 1) (.cons (.arg 2) (.cons (.arg 3) (.cons (.arg 4) .nil))))))))) (.ret (.ifx (.isc (.arg 5) .non true) (.var 6) (.call 18 (.cons (.arg 5) .nil)))))))
def i__law_mirror : T := (.seq (.asg (.nm 2) (.call 19 (.cons (.arg 1) (.cons (.arg 1) .nil)))) (.seq (.asg (.nm 3) (.bin .mul (.lit (.int 2)) (.call 19 (.cons (.arg 0) (.cons (.arg 1) .nil))))) (.ret (.call 20 (.cons (.comp [4] (.nm 4) (.rng1 (.lit (.int 4))) (.lit (.bl true)) (.bin .sub (.bin .mul (.arg 2) (.idx (.arg 0) (.arg 4))) (.bin .mul (.arg 3) (.idx (.arg 1) (.arg 4))))) .nil)))))
def i__law_root : T := (.seq (.ite (.cmp .lt (.arg 0) (.lit (.int 0))) (.ret (.lit (.non))) .nop) (.seq (.asg (.nm 1) (.lit (.int 1))) (.seq (.whl (.cmp .lt (.bin .mul (.arg 1) (.arg 1)) (.arg 0)) (.asg (.nm 1) (.bin .mul (.lit (.int 2)) (.arg 1)))) (.seq (.asg (.nm 2) (.lit (.int 0))) (.seq (.whl (.cmp .lt (.arg 2) (.arg 1)) (.seq (.asg (.nm 3) (.bin .fdiv (.bin .add (.arg 2) (.arg 1)) (.lit (.int 2)))) (.ite (.cmp .lt (.bin .mul (.arg 3) (.arg 3)) (.arg 0)) (.asg (.nm 2) (.bin .add (.arg 3) (.lit (.int 1)))) (.asg (.nm 1) (.var 3))))) (.ret (.ifx (.cmp .eq (.bin .mul (.arg 2) (.arg 2)) (.arg 0)) (.var 2) (.lit (.non)))))))))
def i__law_comes : T := (.seq (.asg (.nm 4) (.lst (.cons (.tup (.cons (.lit (.int 0)) (.cons (.lit (.int 1)) (.cons (.lit (.int 0)) (.cons (.lit (.int 0)) .nil))))) (.cons (.tup (.cons (.lit (.int 0)) (.cons (.lit (.int 0)) (.cons (.lit (.int 1)) (.cons (.lit (.int 0)) .nil))))) (.cons (.tup (.cons (.lit (.int 0)) (.cons (.lit (.int 1)) (.cons (.lit (.int 1)) (.cons (.lit (.int 0)) .nil))))) (.cons (.tup (.cons (.lit (.int 0)) (.cons (.lit (.int 1)) (.cons (.neg (.lit (.int 1))) (.cons (.lit (.int 0)) .nil))))) (.cons (.tup (.cons (.lit (.int 1)) (.cons (.lit (.int 0)) (.cons (.lit (.int 0)) (.cons (.neg (.lit (.int 1))) .nil))))) (.cons (.tup (.cons (.lit (.int 0)) (.cons (.lit (.int 3)) (.cons (.lit (.int 4)) (.cons (.lit (.int 0)) .nil))))) (.cons (.tup (.cons (.lit (.int 0)) (.cons (.lit (.int 1)) (.cons (.lit (.int 0)) (.cons (.neg (.lit (.int 1))) .nil))))) .nil))))))))) (.seq (.asg (.nm 5) (.call 17 (.cons (.arg 0) (.cons (.arg 1) (.cons (.arg 4) .nil))))) (.seq (.asg (.nm 6) (.call 17 (.cons (.arg 0) (.cons (.arg 1) (.cons (.bin .add (.arg 4) (.lst (.cons (.var 3) .nil))) .nil))))) (.seq (.asg (.nm 7) (.call 16 (.cons (.arg 0) (.cons (.arg 1) (.cons (.lit (.int 31)) .nil))))) (.seq (.asg (.nm 8) (.lit (.non))) (.seq (.asg (.nm 9) (.var 2)) (.seq (.for (.nm 10) (.rng1 (.blt .min2 (.cons (.arg 7) (.cons (.lit (.int 9)) .nil)))) (.seq (.asg (.nm 9) (.call 23 (.cons (.call 23 (.cons (.arg 9) (.cons (.arg 5) .nil))) (.cons (.arg 6) .nil)))) (.ite (.and (.isc (.arg 8) .non true) (.cmp .eq (.arg 9) (.arg 2))) (.asg (.nm 8) (.bin .add (.arg 10) (.lit (.int 1)))) .nop))) (.seq (.ite (.and (.or (.cmp .lt (.arg 7) (.lit (.int 10))) (.isc (.arg 8) .non false)) (.cmp .ne (.call 22 (.cons (.lit (.int 2)) (.cons (.arg 2) (.cons (.arg 5) (.cons (.arg 6) (.cons (.arg 7) .nil)))))) (.arg 8))) (.ret (.lit (.bl false))) .nop) (.seq (.ite (.and (.isc (.arg 8) .non false) (.isc (.call 22 (.cons (.lit (.int 2)) (.cons (.arg 2) (.cons (.arg 5) (.cons (.arg 6) (.cons (.bin .sub (.arg 8) (.lit (.int 1))) .nil)))))) .non false)) (.ret (.lit (.bl false))) .nop) (.ret (.cmp .eq (.comp [10] (.nm 10) (.tup (.cons (.neg (.lit (.int 1))) (.cons (.lit (.int 31)) .nil))) (.lit (.bl true)) (.call 22 (.cons (.lit (.int 2)) (.cons (.arg 2) (.cons (.arg 5) (.cons (.arg 6) (.cons (.arg 10) .nil))))))) (.bin .mul (.lst (.cons (.tup (.cons (.lit (.str "refused")) (.cons (.lit (.str "number")) .nil))) .nil)) (.lit (.int 2))))))))))))))
def i_law : T := (.seq (.asgM 1 0 (.lst .nil)) (.seq (.asg (.nm 2) (.call 21 (.cons (.arg 0) (.cons (.arg 1) .nil)))) (.seq (.asg (.nm 3) (.call 21 (.cons (.arg 0) (.cons (.arg 1) .nil)))) (.seq (.asg (.nm 4) (.call 17 (.cons (.arg 0) (.cons (.arg 1) (.cons (.lst (.cons (.call 21 (.cons (.arg 0) (.cons (.arg 1) .nil))) (.cons (.call 7 (.cons (.arg 2) (.cons (.arg 3) .nil))) (.cons (.call 7 (.cons (.arg 2) (.cons (.arg 3) .nil))) (.cons (.var 2) .nil))))) .nil))))) (.seq (.asg (.nm 5) (.call 24 (.cons (.bin .mul (.call 19 (.cons (.arg 2) (.cons (.arg 2) .nil))) (.call 19 (.cons (.arg 4) (.cons (.arg 4) .nil)))) .nil))) (.seq (.asg (.nm 6) (.call 22 (.cons (.lit (.int 0)) (.cons (.arg 2) (.cons (.arg 4) (.cons (.lit (.int 0)) (.cons (.lit (.int 0)) .nil))))))) (.seq (.ite (.or (.cmp .eq (.arg 2) (.arg 4)) (.isc (.arg 5) .non true)) (.ite (.cmp .ne (.arg 6) (.tup (.cons (.lit (.str "refused")) (.cons (.lit (.str "none")) .nil)))) (.ret (.lit (.bl false))) .nop) (.seq (.ite (.or (.cmp .ne (.arg 6) (.blt .srt (.cons (.arg 6) .nil))) (.cmp .ne (.blt .nset (.cons (.arg 6) .nil)) (.blt .len (.cons (.arg 6) .nil)))) (.ret (.lit (.bl false))) .nop) (.seq (.ite (.cmp .ne (.comp [9] (.nm 9) (.var 6) (.or (.cmp .ne (.call 7 (.cons (.arg 2) (.cons (.arg 9) .nil))) (.arg 4)) (.cmp .ne (.call 7 (.cons (.arg 4) (.cons (.arg 9) .nil))) (.arg 2))) (.var 9)) (.lst .nil)) (.ret (.lit (.bl false))) .nop) (.seq (.ite (.cmp .ne (.blt .len (.cons (.arg 6) .nil)) (.ifx (.cmp .eq (.call 8 (.cons (.arg 2) (.cons (.arg 4) .nil))) (.lit (.str "cross"))) (.lit (.int 2)) (.lit (.int 1)))) (.ret (.lit (.bl false))) .nop) (.seq (.ite (.and (.cmp .eq (.blt .len (.cons (.arg 6) .nil)) (.lit (.int 2))) (.not (.tru (.call 10 (.cons (.idx (.arg 6) (.lit (.int 0))) (.cons (.idx (.arg 6) (.lit (.int 1))) .nil)))))) (.ret (.lit (.bl false))) .nop) (.ite (.and (.cmp .eq (.arg 4) (.call 7 (.cons (.arg 2) (.cons (.arg 3) .nil)))) (.cmp .nin (.arg 3) (.arg 6))) (.ret (.lit (.bl false))) .nop)))))) (.seq (.asg (.nm 7) (.comp [10] (.nm 10) (.rng1 (.call 16 (.cons (.arg 0) (.cons (.arg 1) (.cons (.lit (.int 5)) .nil))))) (.lit (.bl true)) (.call 21 (.cons (.arg 0) (.cons (.arg 1) .nil))))) (.seq (.asg (.nm 8) (.var 2)) (.seq (.for (.nm 9) (.var 7) (.asg (.nm 8) (.call 23 (.cons (.arg 8) (.cons (.arg 9) .nil))))) (.seq (.ite (.cmp .ne (.call 22 (.cons (.lit (.int 1)) (.cons (.arg 2) (.cons (.arg 7) (.cons (.lit (.int 0)) (.cons (.lit (.int 0)) .nil)))))) (.arg 8)) (.ret (.lit (.bl false))) .nop) (.ret (.call 25 (.cons (.arg 0) (.cons (.arg 1) (.cons (.arg 2) (.cons (.arg 3) .nil)))))))))))))))))
def Pr : List Fn := [⟨2, 2, 0, i_divisor⟩, ⟨2, 3, 0, i_least⟩, ⟨1, 4, 0, i_root_of⟩, ⟨1, 4, 0, i_tidy⟩, ⟨2, 2, 0, i_product⟩, ⟨1, 2, 0, i_look_circle⟩, ⟨2, 5, 0, i_mirror⟩, ⟨2, 2, 0, i_mirrored⟩, ⟨2, 4, 0, i_meeting⟩, ⟨2, 3, 0, i_slant⟩, ⟨2, 2, 0, i_is_right⟩, ⟨2, 8, 1, i_exchanging⟩, ⟨2, 3, 0, i_turned⟩, ⟨4, 6, 0, i_comes_back⟩, ⟨2, 2, 0, i__law_cell⟩, ⟨2, 3, 0, i__law_mix⟩, ⟨3, 3, 0, i__law_draw⟩, ⟨3, 3, 0, i__law_pick⟩, ⟨1, 2, 1, i__law_refusal⟩, ⟨2, 3, 0, i__law_product⟩, ⟨1, 5, 0, i__law_tidy⟩, ⟨2, 4, 1, i__law_circle⟩, ⟨5, 8, 0, i__law_told⟩, ⟨2, 5, 0, i__law_mirror⟩, ⟨1, 4, 0, i__law_root⟩, ⟨4, 11, 0, i__law_comes⟩, ⟨1, 11, 1, i_law⟩]
def LW : Lw := ⟨fun j k => if (Nat.ble 1 j && Nat.ble j 7) = true then (if (k == 100) = true then some true else if (Nat.ble 1 k && Nat.ble k 7) = true then some (j == k) else none) else none⟩
end Lq

namespace Lq
open PySem PySem.Spec PyProof.Rows L2 Cm

structure Tx (g : Gx) (mg : Str → Option Value) : Prop where
  f_ValueError : mg "ValueError" = none
  f_abs : mg "abs" = none
  f_all : mg "all" = none
  f_isinstance : mg "isinstance" = none
  f_len : mg "len" = none
  f_min : mg "min" = none
  f_range : mg "range" = none
  f_set : mg "set" = none
  f_sorted : mg "sorted" = none
  f_tuple : mg "tuple" = none
  c_MOST : ∃ t, mg "MOST" = some (.int 1000000000 t)
  c_MOST_TIMES : ∃ t, mg "MOST_TIMES" = some (.int 30 t)
  x_MirrorError : XF g mg "MirrorError" 0
  x_BadCircle : XF g mg "BadCircle" 1
  x_BadPoint : XF g mg "BadPoint" 2
  x_BadFraction : XF g mg "BadFraction" 3
  x_NoSuch : XF g mg "NoSuch" 4
  x_BadKiss : XF g mg "BadKiss" 5
  x_BadNumber : XF g mg "BadNumber" 6
  x_BadText : XF g mg "BadText" 7
  hL : ∀ k, (Nat.ble 1 k && Nat.ble k 7) = true → ∀ j b, LW.sub j k = some b → ExcC g.K (g.C j) ∧ PySem.W.kitOne g.K (.ref (g.C j)) (.ref (g.C k)) = some b
  hLv : ∀ j b, LW.sub j 100 = some b → ExcC g.K (g.C j) ∧ PySem.W.kitOne g.K (.ref (g.C j)) (.type "ValueError") = some b
  me : ∀ k, PySem.W.exmOne g.K (.ref (g.C k)) (.ref (g.C 0)) = some true
structure Fns (g : Gx) (P : Program) (w : World) (mg : Str → Option Value) (base : Heap) (k : Nat) : Prop where
  fn_divisor : FnAt g P w mg base k (callE LW Pr k) "divisor" 0
  fn_least : FnAt g P w mg base k (callE LW Pr k) "least" 1
  fn_root_of : FnAt g P w mg base k (callE LW Pr k) "root_of" 2
  fn_tidy : FnAt g P w mg base k (callE LW Pr k) "tidy" 3
  fn_product : FnAt g P w mg base k (callE LW Pr k) "product" 4
  fn_look_circle : FnAt g P w mg base k (callE LW Pr k) "look_circle" 5
  fn_mirror : FnAt g P w mg base k (callE LW Pr k) "mirror" 6
  fn_mirrored : FnAt g P w mg base k (callE LW Pr k) "mirrored" 7
  fn_meeting : FnAt g P w mg base k (callE LW Pr k) "meeting" 8
  fn_slant : FnAt g P w mg base k (callE LW Pr k) "slant" 9
  fn_is_right : FnAt g P w mg base k (callE LW Pr k) "is_right" 10
  fn_exchanging : FnAt g P w mg base k (callE LW Pr k) "exchanging" 11
  fn_turned : FnAt g P w mg base k (callE LW Pr k) "turned" 12
  fn_comes_back : FnAt g P w mg base k (callE LW Pr k) "comes_back" 13
  fn__law_cell : FnAt g P w mg base k (callE LW Pr k) "_law_cell" 14
  fn__law_mix : FnAt g P w mg base k (callE LW Pr k) "_law_mix" 15
  fn__law_draw : FnAt g P w mg base k (callE LW Pr k) "_law_draw" 16
  fn__law_pick : FnAt g P w mg base k (callE LW Pr k) "_law_pick" 17
  fn__law_refusal : FnAt g P w mg base k (callE LW Pr k) "_law_refusal" 18
  fn__law_product : FnAt g P w mg base k (callE LW Pr k) "_law_product" 19
  fn__law_tidy : FnAt g P w mg base k (callE LW Pr k) "_law_tidy" 20
  fn__law_circle : FnAt g P w mg base k (callE LW Pr k) "_law_circle" 21
  fn__law_told : FnAt g P w mg base k (callE LW Pr k) "_law_told" 22
  fn__law_mirror : FnAt g P w mg base k (callE LW Pr k) "_law_mirror" 23
  fn__law_root : FnAt g P w mg base k (callE LW Pr k) "_law_root" 24
  fn__law_comes : FnAt g P w mg base k (callE LW Pr k) "_law_comes" 25
  fn_law : FnAt g P w mg base k (callE LW Pr k) "law" 26
section
variable {g : Gx} {P : Program} {w : World} {mg : Str → Option Value} {base : Heap} {k : Nat}
theorem sc_divisor : FnScope ["one", "other"] ["one", "other"] (defScope (top 10)) := ⟨rfl, rfl, rfl, by decide +kernel, rfl, by decide +kernel, by decide +kernel⟩
theorem dv_divisor (T : Tx g mg) (Fk : Fns g P w mg base k) {fa : Addr} {cdv : Value} {A : Around} {outer : List Env} {s : Shared} {H : Hp} {Ex : XK} {b : Nat} (hr : Room k (A.deeper (envOfC "divisor" (defScope (top 10)) s.heap.objs.size fa cdv))) :
    PSs (cxOf (L2.CX P w) P w g.K mg base ["one", "other"] "divisor" (defScope (top 10)) fa cdv A outer s H Ex) (defBody (top 10)) (rdS g LW (callE LW Pr k) (fun cls d _ H => Ex cls d H) b i_divisor) :=
  (rs_cons (rs_while (passes_of rfl) (rt_tru rfl (re_arg (pv 1))) (rs_one (rs_par (i := 0) (j := 1) rfl sc_divisor.nd rfl rfl (by decide) rfl rfl (re_var (pv 1)) (re_bin (op_modD) (re_arg (pv 0)) (re_arg (pv 1))) (by rfl))))
  (rs_one (rs_ret (re_abs T.f_abs rfl (ra_cons (re_arg (pv 0)) ra_nil)))))
theorem sc_least : FnScope ["top", "under", "both"] ["top", "under"] (defScope (top 11)) := ⟨rfl, rfl, rfl, by decide +kernel, rfl, by decide +kernel, by decide +kernel⟩
theorem dv_least (T : Tx g mg) (Fk : Fns g P w mg base k) {fa : Addr} {cdv : Value} {A : Around} {outer : List Env} {s : Shared} {H : Hp} {Ex : XK} {b : Nat} (hr : Room k (A.deeper (envOfC "least" (defScope (top 11)) s.heap.objs.size fa cdv))) :
    PSs (cxOf (L2.CX P w) P w g.K mg base ["top", "under", "both"] "least" (defScope (top 11)) fa cdv A outer s H Ex) (defBody (top 11)) (rdS g LW (callE LW Pr k) (fun cls d _ H => Ex cls d H) b i_least) :=
  (rs_cons (rs_if (rt_cmp (op_ltE) (re_arg (pv 1)) re_int (nomark _)) (rs_one (rs_par (i := 0) (j := 1) rfl sc_least.nd rfl rfl (by decide) rfl rfl (re_bin (op_subD) re_int (re_arg (pv 0))) (re_bin (op_subD) re_int (re_arg (pv 1))) (by rfl))) rs_nil)
  (rs_cons (rs_set (i := 2) sc_least.nd rfl (Or.inl rfl) (re_call rfl (takes_of rfl rfl rfl rfl) Fk.fn_divisor hr rfl (ra_cons (re_arg (pv 0)) (ra_cons (re_arg (pv 1)) ra_nil))))
  (rs_one (rs_ret (re_tup (ra_cons (re_bin (op_fdivD) (re_arg (pv 0)) (re_arg (pv 2))) (ra_cons (re_bin (op_fdivD) (re_arg (pv 1)) (re_arg (pv 2))) ra_nil)))))))
theorem sc_root_of : FnScope ["number", "low", "high", "middle"] ["number"] (defScope (top 12)) := ⟨rfl, rfl, rfl, by decide +kernel, rfl, by decide +kernel, by decide +kernel⟩
theorem dv_root_of (T : Tx g mg) (Fk : Fns g P w mg base k) {fa : Addr} {cdv : Value} {A : Around} {outer : List Env} {s : Shared} {H : Hp} {Ex : XK} {b : Nat} (hr : Room k (A.deeper (envOfC "root_of" (defScope (top 12)) s.heap.objs.size fa cdv))) :
    PSs (cxOf (L2.CX P w) P w g.K mg base ["number", "low", "high", "middle"] "root_of" (defScope (top 12)) fa cdv A outer s H Ex) (defBody (top 12)) (rdS g LW (callE LW Pr k) (fun cls d _ H => Ex cls d H) b i_root_of) :=
  (rs_cons (rs_if (rt_cmp (op_ltE) (re_arg (pv 0)) re_int (nomark _)) (rs_one (rs_ret re_non)) rs_nil)
  (rs_cons (rs_set (i := 1) sc_root_of.nd rfl (Or.inl rfl) re_int)
  (rs_cons (rs_set (i := 2) sc_root_of.nd rfl (Or.inl rfl) (re_bin (op_addD rfl) (re_arg (pv 0)) re_int))
  (rs_cons (rs_while (passes_of rfl) (rt_cmp (op_ltE) (re_bin (op_addD rfl) (re_arg (pv 1)) re_int) (re_arg (pv 2)) (nomark _)) (rs_cons (rs_set (i := 3) sc_root_of.nd rfl (Or.inl rfl) (re_bin (op_fdivD) (re_bin (op_addD rfl) (re_arg (pv 1)) (re_arg (pv 2))) re_int))
  (rs_one (rs_if (rt_cmp (op_leE) (re_bin (op_mulD rfl) (re_arg (pv 3)) (re_arg (pv 3))) (re_arg (pv 0)) (nomark _)) (rs_one (rs_set (i := 1) sc_root_of.nd rfl (Or.inl rfl) (re_var (pv 3)))) (rs_one (rs_set (i := 2) sc_root_of.nd rfl (Or.inl rfl) (re_var (pv 3))))))))
  (rs_one (rs_ret (re_ifx (rt_cmp (op_eqE rfl hr.units) (re_bin (op_mulD rfl) (re_arg (pv 1)) (re_arg (pv 1))) (re_arg (pv 0)) (nomark _)) (re_var (pv 1)) re_non)))))))
theorem sc_tidy : FnScope ["some", "both", "one", "first"] ["some"] (defScope (top 15)) := ⟨rfl, rfl, rfl, by decide +kernel, rfl, by decide +kernel, by decide +kernel⟩
theorem dv_tidy (T : Tx g mg) (Fk : Fns g P w mg base k) {fa : Addr} {cdv : Value} {A : Around} {outer : List Env} {s : Shared} {H : Hp} {Ex : XK} {b : Nat} (hr : Room k (A.deeper (envOfC "tidy" (defScope (top 15)) s.heap.objs.size fa cdv))) :
    PSs (cxOf (L2.CX P w) P w g.K mg base ["some", "both", "one", "first"] "tidy" (defScope (top 15)) fa cdv A outer s H Ex) (defBody (top 15)) (rdS g LW (callE LW Pr k) (fun cls d _ H => Ex cls d H) b i_tidy) :=
  (rs_cons (rs_set (i := 1) sc_tidy.nd rfl (Or.inr rfl) re_int)
  (rs_cons (rs_for (passes_of rfl) rfl (ri_seq (re_var (pv 0))) (rg_name (pg_name (i := 2) sc_tidy.nd rfl (Or.inl rfl))) (rs_one (rs_set (i := 1) sc_tidy.nd rfl (Or.inr rfl) (re_call rfl (takes_of rfl rfl rfl rfl) Fk.fn_divisor hr rfl (ra_cons (re_arg (pv 2)) (ra_cons (re_arg (pv 1)) ra_nil))))))
  (rs_cons (rs_set (i := 3) sc_tidy.nd rfl (Or.inl rfl) (re_idx rfl (re_comp (own := [("one", 2)]) rfl sc_tidy.nd (ri_seq (re_var (pv 0))) (blkOk_by (own := [("one", 2)]) (by kernel_rfl)) (fun _ _ _ _ _ => (rg_name (pg_name (i := 2) sc_tidy.nd rfl (Or.inl rfl)))) (fun _ _ _ _ _ => (rts_one (rt_cmp (op_neE rfl hr.units) (re_arg (pv 2)) re_int (nomark _)))) (fun _ _ _ _ _ => (re_var (pv 2))) (by decide)) re_int (fun _ _ => rfl)))
  (rs_cons (rs_set (i := 1) sc_tidy.nd rfl (Or.inr rfl) (re_ifx (rt_cmp (op_gtE) (re_arg (pv 3)) re_int (nomark _)) (re_var (pv 1)) (re_bin (op_subD) re_int (re_arg (pv 1)))))
  (rs_one (rs_ret (re_tuple rfl T.f_tuple rfl (ra_cons (re_comp (own := [("one", 2)]) rfl sc_tidy.nd (ri_seq (re_var (pv 0))) (blkOk_by (own := [("one", 2)]) (by kernel_rfl)) (fun _ _ _ _ _ => (rg_name (pg_name (i := 2) sc_tidy.nd rfl (Or.inl rfl)))) (fun _ _ _ _ _ => rts_nil) (fun _ _ _ _ _ => (re_bin (op_fdivD) (re_arg (pv 2)) (re_arg (pv 1)))) (by decide)) ra_nil))))))))
theorem sc_product : FnScope ["one", "other"] ["one", "other"] (defScope (top 16)) := ⟨rfl, rfl, rfl, by decide +kernel, rfl, by decide +kernel, by decide +kernel⟩
theorem dv_product (T : Tx g mg) (Fk : Fns g P w mg base k) {fa : Addr} {cdv : Value} {A : Around} {outer : List Env} {s : Shared} {H : Hp} {Ex : XK} {b : Nat} (hr : Room k (A.deeper (envOfC "product" (defScope (top 16)) s.heap.objs.size fa cdv))) :
    PSs (cxOf (L2.CX P w) P w g.K mg base ["one", "other"] "product" (defScope (top 16)) fa cdv A outer s H Ex) (defBody (top 16)) (rdS g LW (callE LW Pr k) (fun cls d _ H => Ex cls d H) b i_product) :=
  (rs_one (rs_ret (re_bin (op_subD) (re_bin (op_subD) (re_bin (op_addD rfl) (re_bin (op_mulD rfl) (re_idx rfl (re_arg (pv 0)) re_int (fun _ _ => rfl)) (re_idx rfl (re_arg (pv 1)) re_int (fun _ _ => rfl))) (re_bin (op_mulD rfl) (re_idx rfl (re_arg (pv 0)) re_int (fun _ _ => rfl)) (re_idx rfl (re_arg (pv 1)) re_int (fun _ _ => rfl)))) (re_bin (op_mulD rfl) (re_bin (op_mulD rfl) re_int (re_idx rfl (re_arg (pv 0)) re_int (fun _ _ => rfl))) (re_idx rfl (re_arg (pv 1)) re_int (fun _ _ => rfl)))) (re_bin (op_mulD rfl) (re_bin (op_mulD rfl) re_int (re_idx rfl (re_arg (pv 0)) re_int (fun _ _ => rfl))) (re_idx rfl (re_arg (pv 1)) re_int (fun _ _ => rfl))))))
theorem sc_look_circle : FnScope ["circle", "one"] ["circle"] (defScope (top 17)) := ⟨rfl, rfl, rfl, by decide +kernel, rfl, by decide +kernel, by decide +kernel⟩
theorem dv_look_circle (T : Tx g mg) (Fk : Fns g P w mg base k) {fa : Addr} {cdv : Value} {A : Around} {outer : List Env} {s : Shared} {H : Hp} {Ex : XK} {b : Nat} (hr : Room k (A.deeper (envOfC "look_circle" (defScope (top 17)) s.heap.objs.size fa cdv))) :
    PSs (cxOf (L2.CX P w) P w g.K mg base ["circle", "one"] "look_circle" (defScope (top 17)) fa cdv A outer s H Ex) (defBody (top 17)) (rdS g LW (callE LW Pr k) (fun cls d _ H => Ex cls d H) b i_look_circle) :=
  (rs_cons (rs_if (PW.pt (rw_or (rt_cmp (op_neE rfl hr.units) (re_len rfl T.f_len rfl (ra_cons (re_arg (pv 0)) ra_nil)) re_int (nomark _)) (rw_or1 (rt_not (rt_tru rfl (re_all rfl rfl T.f_all rfl (ra_cons (re_comp (own := [("one", 1)]) rfl sc_look_circle.nd (ri_seq (re_var (pv 0))) (blkOk_by (own := [("one", 1)]) (by kernel_rfl)) (fun _ _ _ _ _ => (rg_name (pg_name (i := 1) sc_look_circle.nd rfl (Or.inl rfl)))) (fun _ _ _ _ _ => rts_nil) (fun _ _ _ _ _ => (re_chn (op_leE) (op_leE) (re_bin (op_subD) re_int (re_cst T.c_MOST rfl)) (re_arg (pv 1)) (re_cst T.c_MOST rfl) (by with_unfolding_all rfl))) (by decide)) ra_nil))))))) (rs_one (rs_rse rfl rfl (takes_of rfl rfl rfl rfl) T.x_BadCircle rfl)) rs_nil)
  (rs_one (rs_if (PW.pt (rw_or (rt_cmp (op_leE) (re_call rfl (takes_of rfl rfl rfl rfl) Fk.fn_product hr rfl (ra_cons (re_arg (pv 0)) (ra_cons (re_arg (pv 0)) ra_nil))) re_int (nomark _)) (rw_or1 (rt_cmp (op_neE rfl hr.units) (re_call rfl (takes_of rfl rfl rfl rfl) Fk.fn_tidy hr rfl (ra_cons (re_arg (pv 0)) ra_nil)) (re_arg (pv 0)) (nomark _))))) (rs_one (rs_rse rfl rfl (takes_of rfl rfl rfl rfl) T.x_BadCircle rfl)) rs_nil)))
theorem sc_mirror : FnScope ["some", "glass", "own", "by", "k"] ["some", "glass"] (defScope (top 20)) := ⟨rfl, rfl, rfl, by decide +kernel, rfl, by decide +kernel, by decide +kernel⟩
theorem dv_mirror (T : Tx g mg) (Fk : Fns g P w mg base k) {fa : Addr} {cdv : Value} {A : Around} {outer : List Env} {s : Shared} {H : Hp} {Ex : XK} {b : Nat} (hr : Room k (A.deeper (envOfC "mirror" (defScope (top 20)) s.heap.objs.size fa cdv))) :
    PSs (cxOf (L2.CX P w) P w g.K mg base ["some", "glass", "own", "by", "k"] "mirror" (defScope (top 20)) fa cdv A outer s H Ex) (defBody (top 20)) (rdS g LW (callE LW Pr k) (fun cls d _ H => Ex cls d H) b i_mirror) :=
  (rs_cons (rs_set (i := 2) sc_mirror.nd rfl (Or.inr rfl) (re_call rfl (takes_of rfl rfl rfl rfl) Fk.fn_product hr rfl (ra_cons (re_arg (pv 1)) (ra_cons (re_arg (pv 1)) ra_nil))))
  (rs_cons (rs_set (i := 3) sc_mirror.nd rfl (Or.inr rfl) (re_bin (op_mulD rfl) re_int (re_call rfl (takes_of rfl rfl rfl rfl) Fk.fn_product hr rfl (ra_cons (re_arg (pv 0)) (ra_cons (re_arg (pv 1)) ra_nil)))))
  (rs_one (rs_ret (re_comp (own := [("k", 4)]) rfl sc_mirror.nd (ri_rng1 rfl T.f_range re_int) (blkOk_by (own := [("k", 4)]) (by kernel_rfl)) (fun _ _ _ _ _ => (rg_name (pg_name (i := 4) sc_mirror.nd rfl (Or.inl rfl)))) (fun _ _ _ _ _ => rts_nil) (fun _ _ _ _ _ => (re_bin (op_subD) (re_bin (op_mulD rfl) (re_arg (pv 2)) (re_idx rfl (re_arg (pv 0)) (re_arg (pv 4)) (fun _ _ => rfl))) (re_bin (op_mulD rfl) (re_arg (pv 3)) (re_idx rfl (re_arg (pv 1)) (re_arg (pv 4)) (fun _ _ => rfl))))) (by decide))))))
theorem sc_mirrored : FnScope ["circle", "glass"] ["circle", "glass"] (defScope (top 21)) := ⟨rfl, rfl, rfl, by decide +kernel, rfl, by decide +kernel, by decide +kernel⟩
theorem dv_mirrored (T : Tx g mg) (Fk : Fns g P w mg base k) {fa : Addr} {cdv : Value} {A : Around} {outer : List Env} {s : Shared} {H : Hp} {Ex : XK} {b : Nat} (hr : Room k (A.deeper (envOfC "mirrored" (defScope (top 21)) s.heap.objs.size fa cdv))) :
    PSs (cxOf (L2.CX P w) P w g.K mg base ["circle", "glass"] "mirrored" (defScope (top 21)) fa cdv A outer s H Ex) (defBody (top 21)) (rdS g LW (callE LW Pr k) (fun cls d _ H => Ex cls d H) b i_mirrored) :=
  (rs_cons (rs_exp (re_call rfl (takes_of rfl rfl rfl rfl) Fk.fn_look_circle hr rfl (ra_cons (re_arg (pv 0)) ra_nil)))
  (rs_cons (rs_exp (re_call rfl (takes_of rfl rfl rfl rfl) Fk.fn_look_circle hr rfl (ra_cons (re_arg (pv 1)) ra_nil)))
  (rs_one (rs_ret (re_call rfl (takes_of rfl rfl rfl rfl) Fk.fn_tidy hr rfl (ra_cons (re_call rfl (takes_of rfl rfl rfl rfl) Fk.fn_mirror hr rfl (ra_cons (re_arg (pv 0)) (ra_cons (re_arg (pv 1)) ra_nil))) ra_nil))))))
theorem sc_meeting : FnScope ["one", "other", "both", "own"] ["one", "other"] (defScope (top 22)) := ⟨rfl, rfl, rfl, by decide +kernel, rfl, by decide +kernel, by decide +kernel⟩
theorem dv_meeting (T : Tx g mg) (Fk : Fns g P w mg base k) {fa : Addr} {cdv : Value} {A : Around} {outer : List Env} {s : Shared} {H : Hp} {Ex : XK} {b : Nat} (hr : Room k (A.deeper (envOfC "meeting" (defScope (top 22)) s.heap.objs.size fa cdv))) :
    PSs (cxOf (L2.CX P w) P w g.K mg base ["one", "other", "both", "own"] "meeting" (defScope (top 22)) fa cdv A outer s H Ex) (defBody (top 22)) (rdS g LW (callE LW Pr k) (fun cls d _ H => Ex cls d H) b i_meeting) :=
  (rs_cons (rs_exp (re_call rfl (takes_of rfl rfl rfl rfl) Fk.fn_look_circle hr rfl (ra_cons (re_arg (pv 0)) ra_nil)))
  (rs_cons (rs_exp (re_call rfl (takes_of rfl rfl rfl rfl) Fk.fn_look_circle hr rfl (ra_cons (re_arg (pv 1)) ra_nil)))
  (rs_cons (rs_if (rt_cmp (op_eqE rfl hr.units) (re_arg (pv 0)) (re_arg (pv 1)) (nomark _)) (rs_one (rs_ret re_str)) rs_nil)
  (rs_cons (rs_set (i := 2) sc_meeting.nd rfl (Or.inl rfl) (re_bin (op_mulD rfl) (re_call rfl (takes_of rfl rfl rfl rfl) Fk.fn_product hr rfl (ra_cons (re_arg (pv 0)) (ra_cons (re_arg (pv 1)) ra_nil))) (re_call rfl (takes_of rfl rfl rfl rfl) Fk.fn_product hr rfl (ra_cons (re_arg (pv 0)) (ra_cons (re_arg (pv 1)) ra_nil)))))
  (rs_cons (rs_set (i := 3) sc_meeting.nd rfl (Or.inl rfl) (re_bin (op_mulD rfl) (re_call rfl (takes_of rfl rfl rfl rfl) Fk.fn_product hr rfl (ra_cons (re_arg (pv 0)) (ra_cons (re_arg (pv 0)) ra_nil))) (re_call rfl (takes_of rfl rfl rfl rfl) Fk.fn_product hr rfl (ra_cons (re_arg (pv 1)) (ra_cons (re_arg (pv 1)) ra_nil)))))
  (rs_one (rs_ret (re_ifx (rt_cmp (op_eqE rfl hr.units) (re_arg (pv 2)) (re_arg (pv 3)) (nomark _)) re_str (re_ifx (rt_cmp (op_ltE) (re_arg (pv 2)) (re_arg (pv 3)) (nomark _)) re_str re_str)))))))))
theorem sc_slant : FnScope ["one", "other", "both"] ["one", "other"] (defScope (top 23)) := ⟨rfl, rfl, rfl, by decide +kernel, rfl, by decide +kernel, by decide +kernel⟩
theorem dv_slant (T : Tx g mg) (Fk : Fns g P w mg base k) {fa : Addr} {cdv : Value} {A : Around} {outer : List Env} {s : Shared} {H : Hp} {Ex : XK} {b : Nat} (hr : Room k (A.deeper (envOfC "slant" (defScope (top 23)) s.heap.objs.size fa cdv))) :
    PSs (cxOf (L2.CX P w) P w g.K mg base ["one", "other", "both"] "slant" (defScope (top 23)) fa cdv A outer s H Ex) (defBody (top 23)) (rdS g LW (callE LW Pr k) (fun cls d _ H => Ex cls d H) b i_slant) :=
  (rs_cons (rs_exp (re_call rfl (takes_of rfl rfl rfl rfl) Fk.fn_look_circle hr rfl (ra_cons (re_arg (pv 0)) ra_nil)))
  (rs_cons (rs_exp (re_call rfl (takes_of rfl rfl rfl rfl) Fk.fn_look_circle hr rfl (ra_cons (re_arg (pv 1)) ra_nil)))
  (rs_cons (rs_set (i := 2) sc_slant.nd rfl (Or.inl rfl) (re_call rfl (takes_of rfl rfl rfl rfl) Fk.fn_product hr rfl (ra_cons (re_arg (pv 0)) (ra_cons (re_arg (pv 1)) ra_nil))))
  (rs_one (rs_ret (re_call rfl (takes_of rfl rfl rfl rfl) Fk.fn_least hr rfl (ra_cons (re_bin (op_mulD rfl) (re_arg (pv 2)) (re_arg (pv 2))) (ra_cons (re_bin (op_mulD rfl) (re_call rfl (takes_of rfl rfl rfl rfl) Fk.fn_product hr rfl (ra_cons (re_arg (pv 0)) (ra_cons (re_arg (pv 0)) ra_nil))) (re_call rfl (takes_of rfl rfl rfl rfl) Fk.fn_product hr rfl (ra_cons (re_arg (pv 1)) (ra_cons (re_arg (pv 1)) ra_nil)))) ra_nil))))))))
theorem sc_is_right : FnScope ["one", "other"] ["one", "other"] (defScope (top 24)) := ⟨rfl, rfl, rfl, by decide +kernel, rfl, by decide +kernel, by decide +kernel⟩
theorem dv_is_right (T : Tx g mg) (Fk : Fns g P w mg base k) {fa : Addr} {cdv : Value} {A : Around} {outer : List Env} {s : Shared} {H : Hp} {Ex : XK} {b : Nat} (hr : Room k (A.deeper (envOfC "is_right" (defScope (top 24)) s.heap.objs.size fa cdv))) :
    PSs (cxOf (L2.CX P w) P w g.K mg base ["one", "other"] "is_right" (defScope (top 24)) fa cdv A outer s H Ex) (defBody (top 24)) (rdS g LW (callE LW Pr k) (fun cls d _ H => Ex cls d H) b i_is_right) :=
  (rs_one (rs_ret (re_cmp (op_eqE rfl hr.units) (re_call rfl (takes_of rfl rfl rfl rfl) Fk.fn_slant hr rfl (ra_cons (re_arg (pv 0)) (ra_cons (re_arg (pv 1)) ra_nil))) (re_tup (ra_cons re_int (ra_cons re_int ra_nil))) (nomark _))))
theorem sc_exchanging : FnScope ["one", "other", "root", "own", "found", "by", "some", "k"] ["one", "other"] (defScope (top 25)) := ⟨rfl, rfl, rfl, by decide +kernel, rfl, by decide +kernel, by decide +kernel⟩
theorem dv_exchanging (T : Tx g mg) (Fk : Fns g P w mg base k) {fa : Addr} {cdv : Value} {A : Around} {outer : List Env} {s : Shared} {H : Hp} {Ex : XK} {b : Nat} (hr : Room k (A.deeper (envOfC "exchanging" (defScope (top 25)) s.heap.objs.size fa cdv))) :
    PSs (cxOf (L2.CX P w) P w g.K mg base ["one", "other", "root", "own", "found", "by", "some", "k"] "exchanging" (defScope (top 25)) fa cdv A outer s H Ex) (defBody (top 25)) (rdS g LW (callE LW Pr k) (fun cls d _ H => Ex cls d H) b i_exchanging) :=
  (rs_cons (rs_exp (re_call rfl (takes_of rfl rfl rfl rfl) Fk.fn_look_circle hr rfl (ra_cons (re_arg (pv 0)) ra_nil)))
  (rs_cons (rs_exp (re_call rfl (takes_of rfl rfl rfl rfl) Fk.fn_look_circle hr rfl (ra_cons (re_arg (pv 1)) ra_nil)))
  (rs_cons (rs_if (rt_cmp (op_eqE rfl hr.units) (re_arg (pv 0)) (re_arg (pv 1)) (nomark _)) (rs_one (rs_rse rfl rfl (takes_of rfl rfl rfl rfl) T.x_NoSuch rfl)) rs_nil)
  (rs_cons (rs_set (i := 2) sc_exchanging.nd rfl (Or.inl rfl) (re_call rfl (takes_of rfl rfl rfl rfl) Fk.fn_root_of hr rfl (ra_cons (re_bin (op_mulD rfl) (re_call rfl (takes_of rfl rfl rfl rfl) Fk.fn_product hr rfl (ra_cons (re_arg (pv 0)) (ra_cons (re_arg (pv 0)) ra_nil))) (re_call rfl (takes_of rfl rfl rfl rfl) Fk.fn_product hr rfl (ra_cons (re_arg (pv 1)) (ra_cons (re_arg (pv 1)) ra_nil)))) ra_nil)))
  (rs_cons (rs_if (rt_isN (re_arg (pv 2))) (rs_one (rs_rse rfl rfl (takes_of rfl rfl rfl rfl) T.x_NoSuch rfl)) rs_nil)
  (rs_cons (rs_set (i := 3) sc_exchanging.nd rfl (Or.inr rfl) (re_call rfl (takes_of rfl rfl rfl rfl) Fk.fn_product hr rfl (ra_cons (re_arg (pv 0)) (ra_cons (re_arg (pv 0)) ra_nil))))
  (rs_cons (rs_setM (i := 4) (k := 0) sc_exchanging.nd rfl (Or.inl rfl) (rf_lst ra_nil))
  (rs_cons (rs_for (passes_of rfl) rfl (ri_seq (re_tup (ra_cons (re_var (pv 2)) (ra_cons (re_bin (op_subD) re_int (re_arg (pv 2))) ra_nil)))) (rg_name (pg_name (i := 5) sc_exchanging.nd rfl (Or.inr rfl))) (rs_cons (rs_setC (i := 6) (own := [("k", 7)]) rfl sc_exchanging.nd rfl rfl (sw_true rfl rfl rfl (by decide +kernel)) (ri_rng1 rfl T.f_range re_int) (blkOk_by (own := [("k", 7)]) (by kernel_rfl)) (fun _ _ _ _ _ => (rg_name (pg_name (i := 7) sc_exchanging.nd rfl (Or.inl rfl)))) (fun _ _ _ _ _ => rts_nil) (fun _ _ _ _ _ => (re_bin (op_subD) (re_bin (op_mulD rfl) (re_arg (pv 5)) (re_idx rfl (re_arg (pv 0)) (re_arg (pv 7)) (fun _ _ => rfl))) (re_bin (op_mulD rfl) (re_arg (pv 3)) (re_idx rfl (re_arg (pv 1)) (re_arg (pv 7)) (fun _ _ => rfl))))) (by decide))
  (rs_one (rs_if (rt_cmp (op_gtE) (re_call rfl (takes_of rfl rfl rfl rfl) Fk.fn_product hr rfl (ra_cons (re_arg (pv 6)) (ra_cons (re_arg (pv 6)) ra_nil))) re_int (nomark _)) (rs_one (rs_apd rfl (re_arg (pv 4)) (re_call rfl (takes_of rfl rfl rfl rfl) Fk.fn_tidy hr rfl (ra_cons (re_arg (pv 6)) ra_nil)))) rs_nil))))
  (rs_one (rs_ret (re_bltF (cb_srt rfl) rfl T.f_sorted (by decide +kernel) (ra_cons (re_arg (pv 4)) ra_nil))))))))))))
theorem sc_turned : FnScope ["circle", "glasses", "glass"] ["circle", "glasses"] (defScope (top 26)) := ⟨rfl, rfl, rfl, by decide +kernel, rfl, by decide +kernel, by decide +kernel⟩
theorem dv_turned (T : Tx g mg) (Fk : Fns g P w mg base k) {fa : Addr} {cdv : Value} {A : Around} {outer : List Env} {s : Shared} {H : Hp} {Ex : XK} {b : Nat} (hr : Room k (A.deeper (envOfC "turned" (defScope (top 26)) s.heap.objs.size fa cdv))) :
    PSs (cxOf (L2.CX P w) P w g.K mg base ["circle", "glasses", "glass"] "turned" (defScope (top 26)) fa cdv A outer s H Ex) (defBody (top 26)) (rdS g LW (callE LW Pr k) (fun cls d _ H => Ex cls d H) b i_turned) :=
  (rs_cons (rs_exp (re_call rfl (takes_of rfl rfl rfl rfl) Fk.fn_look_circle hr rfl (ra_cons (re_arg (pv 0)) ra_nil)))
  (rs_cons (rs_for (passes_of rfl) rfl (ri_seq (re_var (pv 1))) (rg_name (pg_name (i := 2) sc_turned.nd rfl (Or.inl rfl))) (rs_one (rs_exp (re_call rfl (takes_of rfl rfl rfl rfl) Fk.fn_look_circle hr rfl (ra_cons (re_arg (pv 2)) ra_nil)))))
  (rs_cons (rs_for (passes_of rfl) rfl (ri_seq (re_var (pv 1))) (rg_name (pg_name (i := 2) sc_turned.nd rfl (Or.inl rfl))) (rs_one (rs_set (i := 0) sc_turned.nd rfl (Or.inl rfl) (re_call rfl (takes_of rfl rfl rfl rfl) Fk.fn_tidy hr rfl (ra_cons (re_call rfl (takes_of rfl rfl rfl rfl) Fk.fn_mirror hr rfl (ra_cons (re_arg (pv 0)) (ra_cons (re_arg (pv 2)) ra_nil))) ra_nil)))))
  (rs_one (rs_ret (re_var (pv 0)))))))
theorem sc_comes_back : FnScope ["circle", "one", "other", "most", "here", "k"] ["circle", "one", "other", "most"] (defScope (top 27)) := ⟨rfl, rfl, rfl, by decide +kernel, rfl, by decide +kernel, by decide +kernel⟩
theorem dv_comes_back (T : Tx g mg) (Fk : Fns g P w mg base k) {fa : Addr} {cdv : Value} {A : Around} {outer : List Env} {s : Shared} {H : Hp} {Ex : XK} {b : Nat} (hr : Room k (A.deeper (envOfC "comes_back" (defScope (top 27)) s.heap.objs.size fa cdv))) :
    PSs (cxOf (L2.CX P w) P w g.K mg base ["circle", "one", "other", "most", "here", "k"] "comes_back" (defScope (top 27)) fa cdv A outer s H Ex) (defBody (top 27)) (rdS g LW (callE LW Pr k) (fun cls d _ H => Ex cls d H) b i_comes_back) :=
  (rs_cons (rs_exp (re_call rfl (takes_of rfl rfl rfl rfl) Fk.fn_look_circle hr rfl (ra_cons (re_arg (pv 0)) ra_nil)))
  (rs_cons (rs_exp (re_call rfl (takes_of rfl rfl rfl rfl) Fk.fn_look_circle hr rfl (ra_cons (re_arg (pv 1)) ra_nil)))
  (rs_cons (rs_exp (re_call rfl (takes_of rfl rfl rfl rfl) Fk.fn_look_circle hr rfl (ra_cons (re_arg (pv 2)) ra_nil)))
  (rs_cons (rs_if (rt_not (rt_chn (op_leE) (op_leE) re_int (re_arg (pv 3)) (re_cst T.c_MOST_TIMES rfl) (by with_unfolding_all rfl))) (rs_one (rs_rse rfl rfl (takes_of rfl rfl rfl rfl) T.x_BadNumber rfl)) rs_nil)
  (rs_cons (rs_set (i := 4) sc_comes_back.nd rfl (Or.inl rfl) (re_var (pv 0)))
  (rs_cons (rs_for (passes_of rfl) rfl (ri_rng2 rfl T.f_range re_int (re_bin (op_addD rfl) (re_arg (pv 3)) re_int)) (rg_name (pg_name (i := 5) sc_comes_back.nd rfl (Or.inl rfl))) (rs_cons (rs_set (i := 4) sc_comes_back.nd rfl (Or.inl rfl) (re_call rfl (takes_of rfl rfl rfl rfl) Fk.fn_tidy hr rfl (ra_cons (re_call rfl (takes_of rfl rfl rfl rfl) Fk.fn_mirror hr rfl (ra_cons (re_call rfl (takes_of rfl rfl rfl rfl) Fk.fn_mirror hr rfl (ra_cons (re_arg (pv 4)) (ra_cons (re_arg (pv 1)) ra_nil))) (ra_cons (re_arg (pv 2)) ra_nil))) ra_nil)))
  (rs_one (rs_if (rt_cmp (op_eqE rfl hr.units) (re_arg (pv 4)) (re_arg (pv 0)) (nomark _)) (rs_one (rs_ret (re_var (pv 5)))) rs_nil))))
  (rs_one (rs_ret re_non))))))))
theorem sc__law_cell : FnScope ["script", "k"] ["script", "k"] (defScope (top 29)) := ⟨rfl, rfl, rfl, by decide +kernel, rfl, by decide +kernel, by decide +kernel⟩
theorem dv__law_cell (T : Tx g mg) (Fk : Fns g P w mg base k) {fa : Addr} {cdv : Value} {A : Around} {outer : List Env} {s : Shared} {H : Hp} {Ex : XK} {b : Nat} (hr : Room k (A.deeper (envOfC "_law_cell" (defScope (top 29)) s.heap.objs.size fa cdv))) :
    PSs (cxOf (L2.CX P w) P w g.K mg base ["script", "k"] "_law_cell" (defScope (top 29)) fa cdv A outer s H Ex) (defBody (top 29)) (rdS g LW (callE LW Pr k) (fun cls d _ H => Ex cls d H) b i__law_cell) :=
  (rs_cons (rs_if (rt_tru rfl (re_arg (pv 0))) (rs_one (rs_ret (re_idx rfl (re_arg (pv 0)) (re_bin (op_modD) (re_arg (pv 1)) (re_len rfl T.f_len rfl (ra_cons (re_arg (pv 0)) ra_nil))) (fun _ _ => rfl)))) rs_nil)
  (rs_one (rs_ret re_int)))
theorem sc__law_mix : FnScope ["script", "k", "number"] ["script", "k"] (defScope (top 30)) := ⟨rfl, rfl, rfl, by decide +kernel, rfl, by decide +kernel, by decide +kernel⟩
theorem dv__law_mix (T : Tx g mg) (Fk : Fns g P w mg base k) {fa : Addr} {cdv : Value} {A : Around} {outer : List Env} {s : Shared} {H : Hp} {Ex : XK} {b : Nat} (hr : Room k (A.deeper (envOfC "_law_mix" (defScope (top 30)) s.heap.objs.size fa cdv))) :
    PSs (cxOf (L2.CX P w) P w g.K mg base ["script", "k", "number"] "_law_mix" (defScope (top 30)) fa cdv A outer s H Ex) (defBody (top 30)) (rdS g LW (callE LW Pr k) (fun cls d _ H => Ex cls d H) b i__law_mix) :=
  (rs_cons (rs_set (i := 2) sc__law_mix.nd rfl (Or.inl rfl) (re_bin (op_modD) (re_bin (op_addD rfl) (re_call rfl (takes_of rfl rfl rfl rfl) Fk.fn__law_cell hr rfl (ra_cons (re_arg (pv 0)) (ra_cons (re_arg (pv 1)) ra_nil))) (re_bin (op_mulD rfl) re_int (re_bin (op_addD rfl) (re_arg (pv 1)) re_int))) re_int))
  (rs_cons (rs_set (i := 2) sc__law_mix.nd rfl (Or.inl rfl) (re_bin (op_modD) (re_bin (op_powD) (re_arg (pv 2)) re_int) re_int))
  (rs_one (rs_ret (re_bin (op_modD) (re_bin (op_addD rfl) (re_bin (op_mulD rfl) (re_bin (op_fdivD) (re_arg (pv 2)) re_int) re_int) (re_arg (pv 2))) re_int)))))
theorem sc__law_draw : FnScope ["script", "town", "many"] ["script", "town", "many"] (defScope (top 31)) := ⟨rfl, rfl, rfl, by decide +kernel, rfl, by decide +kernel, by decide +kernel⟩
theorem dv__law_draw (T : Tx g mg) (Fk : Fns g P w mg base k) {fa : Addr} {cdv : Value} {A : Around} {outer : List Env} {s : Shared} {H : Hp} {Ex : XK} {b : Nat} (hr : Room k (A.deeper (envOfC "_law_draw" (defScope (top 31)) s.heap.objs.size fa cdv))) :
    PSs (cxOf (L2.CX P w) P w g.K mg base ["script", "town", "many"] "_law_draw" (defScope (top 31)) fa cdv A outer s H Ex) (defBody (top 31)) (rdS g LW (callE LW Pr k) (fun cls d _ H => Ex cls d H) b i__law_draw) :=
  (rs_cons (rs_apd rfl (re_arg (pv 1)) re_int)
  (rs_one (rs_ret (re_bin (op_modD) (re_bin (op_fdivD) (re_call rfl (takes_of rfl rfl rfl rfl) Fk.fn__law_mix hr rfl (ra_cons (re_arg (pv 0)) (ra_cons (re_len rfl T.f_len rfl (ra_cons (re_arg (pv 1)) ra_nil)) ra_nil))) re_int) (re_arg (pv 2))))))
theorem sc__law_pick : FnScope ["script", "town", "some"] ["script", "town", "some"] (defScope (top 32)) := ⟨rfl, rfl, rfl, by decide +kernel, rfl, by decide +kernel, by decide +kernel⟩
theorem dv__law_pick (T : Tx g mg) (Fk : Fns g P w mg base k) {fa : Addr} {cdv : Value} {A : Around} {outer : List Env} {s : Shared} {H : Hp} {Ex : XK} {b : Nat} (hr : Room k (A.deeper (envOfC "_law_pick" (defScope (top 32)) s.heap.objs.size fa cdv))) :
    PSs (cxOf (L2.CX P w) P w g.K mg base ["script", "town", "some"] "_law_pick" (defScope (top 32)) fa cdv A outer s H Ex) (defBody (top 32)) (rdS g LW (callE LW Pr k) (fun cls d _ H => Ex cls d H) b i__law_pick) :=
  (rs_one (rs_ret (re_idx rfl (re_arg (pv 2)) (re_call rfl (takes_of rfl rfl rfl rfl) Fk.fn__law_draw hr rfl (ra_cons (re_arg (pv 0)) (ra_cons (re_arg (pv 1)) (ra_cons (re_len rfl T.f_len rfl (ra_cons (re_arg (pv 2)) ra_nil)) ra_nil)))) (fun _ _ => rfl))))
theorem sc__law_refusal : FnScope ["caught", "kinds"] ["caught"] (defScope (top 33)) := ⟨rfl, rfl, rfl, by decide +kernel, rfl, by decide +kernel, by decide +kernel⟩
theorem dv__law_refusal (T : Tx g mg) (Fk : Fns g P w mg base k) {fa : Addr} {cdv : Value} {A : Around} {outer : List Env} {s : Shared} {H : Hp} {Ex : XK} {b : Nat} (hr : Room k (A.deeper (envOfC "_law_refusal" (defScope (top 33)) s.heap.objs.size fa cdv))) :
    PSs (cxOf (L2.CX P w) P w g.K mg base ["caught", "kinds"] "_law_refusal" (defScope (top 33)) fa cdv A outer s H Ex) (defBody (top 33)) (rdS g LW (callE LW Pr k) (fun cls d _ H => Ex cls d H) b i__law_refusal) :=
  (rs_cons (rs_if (rt_isN (re_arg (pv 0))) (rs_one (rs_ret (re_tup (ra_cons re_str ra_nil)))) rs_nil)
  (rs_cons (rs_setM (i := 1) (k := 0) sc__law_refusal.nd rfl (Or.inl rfl) (rf_lst (ra_cons (re_isx rfl T.x_BadCircle (T.hL 1 (by decide)) T.f_isinstance rfl rfl (re_arg (pv 0))) (ra_cons (re_isx rfl T.x_BadPoint (T.hL 2 (by decide)) T.f_isinstance rfl rfl (re_arg (pv 0))) (ra_cons (re_isx rfl T.x_BadFraction (T.hL 3 (by decide)) T.f_isinstance rfl rfl (re_arg (pv 0))) ra_nil)))))
  (rs_cons (rs_setM (i := 1) (k := 0) sc__law_refusal.nd rfl (Or.inl rfl) (rf_cat (re_arg (pv 1)) (re_lst (ra_cons (re_isx rfl T.x_NoSuch (T.hL 4 (by decide)) T.f_isinstance rfl rfl (re_arg (pv 0))) (ra_cons (re_isx rfl T.x_BadKiss (T.hL 5 (by decide)) T.f_isinstance rfl rfl (re_arg (pv 0))) (ra_cons (re_isx rfl T.x_BadNumber (T.hL 6 (by decide)) T.f_isinstance rfl rfl (re_arg (pv 0))) ra_nil))))))
  (rs_cons (rs_apd rfl (re_arg (pv 1)) (re_isx rfl T.x_BadText (T.hL 7 (by decide)) T.f_isinstance rfl rfl (re_arg (pv 0))))
  (rs_cons (rs_if (PW.pt (rw_or (rt_cmp (op_neE rfl hr.units) (re_cnt rfl (re_arg (pv 1)) re_bl) re_int (nomark _)) (rw_or1 (rt_not (rt_tru rfl (re_isv rfl T.f_ValueError T.hLv T.f_isinstance rfl rfl (re_arg (pv 0)))))))) (rs_one (rs_ret (re_tup (ra_cons re_str ra_nil)))) rs_nil)
  (rs_one (rs_ret (re_tup (ra_cons re_str (ra_cons (re_idx rfl (re_lst (ra_cons re_str (ra_cons re_str (ra_cons re_str (ra_cons re_str (ra_cons re_str (ra_cons re_str (ra_cons re_str ra_nil)))))))) (re_ix rfl (re_arg (pv 1)) re_bl) (fun _ _ => rfl)) ra_nil))))))))))
theorem sc__law_product : FnScope ["one", "other", "found"] ["one", "other"] (defScope (top 34)) := ⟨rfl, rfl, rfl, by decide +kernel, rfl, by decide +kernel, by decide +kernel⟩
theorem dv__law_product (T : Tx g mg) (Fk : Fns g P w mg base k) {fa : Addr} {cdv : Value} {A : Around} {outer : List Env} {s : Shared} {H : Hp} {Ex : XK} {b : Nat} (hr : Room k (A.deeper (envOfC "_law_product" (defScope (top 34)) s.heap.objs.size fa cdv))) :
    PSs (cxOf (L2.CX P w) P w g.K mg base ["one", "other", "found"] "_law_product" (defScope (top 34)) fa cdv A outer s H Ex) (defBody (top 34)) (rdS g LW (callE LW Pr k) (fun cls d _ H => Ex cls d H) b i__law_product) :=
  (rs_cons (rs_set (i := 2) sc__law_product.nd rfl (Or.inl rfl) (re_bin (op_addD rfl) (re_bin (op_mulD rfl) (re_idx rfl (re_arg (pv 0)) re_int (fun _ _ => rfl)) (re_idx rfl (re_arg (pv 1)) re_int (fun _ _ => rfl))) (re_bin (op_mulD rfl) (re_idx rfl (re_arg (pv 0)) re_int (fun _ _ => rfl)) (re_idx rfl (re_arg (pv 1)) re_int (fun _ _ => rfl)))))
  (rs_one (rs_ret (re_bin (op_subD) (re_bin (op_subD) (re_arg (pv 2)) (re_bin (op_mulD rfl) (re_bin (op_mulD rfl) re_int (re_idx rfl (re_arg (pv 0)) re_int (fun _ _ => rfl))) (re_idx rfl (re_arg (pv 1)) re_int (fun _ _ => rfl)))) (re_bin (op_mulD rfl) (re_bin (op_mulD rfl) re_int (re_idx rfl (re_arg (pv 0)) re_int (fun _ _ => rfl))) (re_idx rfl (re_arg (pv 1)) re_int (fun _ _ => rfl)))))))
theorem sc__law_tidy : FnScope ["some", "by", "one", "other", "first"] ["some"] (defScope (top 35)) := ⟨rfl, rfl, rfl, by decide +kernel, rfl, by decide +kernel, by decide +kernel⟩
theorem dv__law_tidy (T : Tx g mg) (Fk : Fns g P w mg base k) {fa : Addr} {cdv : Value} {A : Around} {outer : List Env} {s : Shared} {H : Hp} {Ex : XK} {b : Nat} (hr : Room k (A.deeper (envOfC "_law_tidy" (defScope (top 35)) s.heap.objs.size fa cdv))) :
    PSs (cxOf (L2.CX P w) P w g.K mg base ["some", "by", "one", "other", "first"] "_law_tidy" (defScope (top 35)) fa cdv A outer s H Ex) (defBody (top 35)) (rdS g LW (callE LW Pr k) (fun cls d _ H => Ex cls d H) b i__law_tidy) :=
  (rs_cons (rs_set (i := 1) sc__law_tidy.nd rfl (Or.inr rfl) re_int)
  (rs_cons (rs_for (passes_of rfl) rfl (ri_seq (re_var (pv 0))) (rg_name (pg_name (i := 2) sc__law_tidy.nd rfl (Or.inl rfl))) (rs_cons (rs_set (i := 3) sc__law_tidy.nd rfl (Or.inl rfl) (re_abs T.f_abs rfl (ra_cons (re_arg (pv 2)) ra_nil)))
  (rs_one (rs_while (passes_of rfl) (rt_cmp (op_gtE) (re_arg (pv 3)) re_int (nomark _)) (rs_one (rs_asg (re_tup (ra_cons (re_var (pv 3)) (ra_cons (re_bin (op_modD) (re_arg (pv 1)) (re_arg (pv 3))) ra_nil))) (rg_tup rfl rfl (rgs_cons (rg_name (pg_name (i := 1) sc__law_tidy.nd rfl (Or.inr rfl))) (rgs_cons (rg_name (pg_name (i := 3) sc__law_tidy.nd rfl (Or.inl rfl))) rgs_nil)))))))))
  (rs_cons (rs_set (i := 4) sc__law_tidy.nd rfl (Or.inr rfl) (re_idx rfl (re_comp (own := [("one", 2)]) rfl sc__law_tidy.nd (ri_seq (re_var (pv 0))) (blkOk_by (own := [("one", 2)]) (by kernel_rfl)) (fun _ _ _ _ _ => (rg_name (pg_name (i := 2) sc__law_tidy.nd rfl (Or.inl rfl)))) (fun _ _ _ _ _ => (rts_one (rt_cmp (op_neE rfl hr.units) (re_arg (pv 2)) re_int (nomark _)))) (fun _ _ _ _ _ => (re_var (pv 2))) (by decide)) re_int (fun _ _ => rfl)))
  (rs_one (rs_ret (re_tuple rfl T.f_tuple rfl (ra_cons (re_comp (own := [("one", 2)]) rfl sc__law_tidy.nd (ri_seq (re_var (pv 0))) (blkOk_by (own := [("one", 2)]) (by kernel_rfl)) (fun _ _ _ _ _ => (rg_name (pg_name (i := 2) sc__law_tidy.nd rfl (Or.inl rfl)))) (fun _ _ _ _ _ => rts_nil) (fun _ _ _ _ _ => (re_ifx (rt_cmp (op_gtE) (re_arg (pv 4)) re_int (nomark _)) (re_bin (op_fdivD) (re_arg (pv 2)) (re_arg (pv 1))) (re_bin (op_subD) re_int (re_bin (op_fdivD) (re_arg (pv 2)) (re_arg (pv 1)))))) (by decide)) ra_nil)))))))
theorem sc__law_circle : FnScope ["script", "town", "some", "k"] ["script", "town"] (defScope (top 36)) := ⟨rfl, rfl, rfl, by decide +kernel, rfl, by decide +kernel, by decide +kernel⟩
theorem dv__law_circle (T : Tx g mg) (Fk : Fns g P w mg base k) {fa : Addr} {cdv : Value} {A : Around} {outer : List Env} {s : Shared} {H : Hp} {Ex : XK} {b : Nat} (hr : Room k (A.deeper (envOfC "_law_circle" (defScope (top 36)) s.heap.objs.size fa cdv))) :
    PSs (cxOf (L2.CX P w) P w g.K mg base ["script", "town", "some", "k"] "_law_circle" (defScope (top 36)) fa cdv A outer s H Ex) (defBody (top 36)) (rdS g LW (callE LW Pr k) (fun cls d _ H => Ex cls d H) b i__law_circle) :=
  (rs_cons (rs_setMC (i := 2) (k := 0) (own := [("k", 3)]) rfl sc__law_circle.nd rfl rfl (sw_true rfl rfl rfl (by decide +kernel)) (ri_rng1 rfl T.f_range re_int) (blkOk_by (own := [("k", 3)]) (by kernel_rfl)) (fun _ _ _ _ _ => (rg_name (pg_name (i := 3) sc__law_circle.nd rfl (Or.inl rfl)))) (fun _ _ _ _ _ => rts_nil) (fun _ _ _ _ _ => (re_bin (op_subD) (re_call rfl tk0 Fk.fn__law_draw hr rfl (ra_cons (re_arg (pv 0)) (ra_cons (re_arg (pv 1)) (ra_cons re_int ra_nil)))) re_int)) (by decide))
  (rs_cons (rs_if (rt_cmp (op_eqE rfl hr.units) (re_call rfl (takes_of rfl rfl rfl rfl) Fk.fn__law_draw hr rfl (ra_cons (re_arg (pv 0)) (ra_cons (re_arg (pv 1)) (ra_cons re_int ra_nil)))) re_int (nomark _)) (rs_one (rs_setx re_int (re_arg (pv 2)) re_int)) rs_nil)
  (rs_cons (rs_if (rt_cmp (op_leE) (re_call rfl (takes_of rfl rfl rfl rfl) Fk.fn__law_product hr rfl (ra_cons (re_arg (pv 2)) (ra_cons (re_arg (pv 2)) ra_nil))) re_int (nomark _)) (rs_one (rs_setM (i := 2) (k := 0) sc__law_circle.nd rfl (Or.inl rfl) (rf_lst (ra_cons re_int (ra_cons (re_idx rfl (re_arg (pv 2)) re_int (fun _ _ => rfl)) (ra_cons (re_idx rfl (re_arg (pv 2)) re_int (fun _ _ => rfl)) (ra_cons (re_bin (op_subD) (re_bin (op_subD) re_int re_int) (re_abs T.f_abs rfl (ra_cons (re_idx rfl (re_arg (pv 2)) re_int (fun _ _ => rfl)) ra_nil))) ra_nil))))))) rs_nil)
  (rs_one (rs_ret (re_call rfl (takes_of rfl rfl rfl rfl) Fk.fn__law_tidy hr rfl (ra_cons (re_arg (pv 2)) ra_nil)))))))
theorem sc__law_told : FnScope ["kind", "one", "other", "third", "most", "caught", "found", "e"] ["kind", "one", "other", "third", "most"] (defScope (top 37)) := ⟨rfl, rfl, rfl, by decide +kernel, rfl, by decide +kernel, by decide +kernel⟩
theorem dv__law_told (T : Tx g mg) (Fk : Fns g P w mg base k) {fa : Addr} {cdv : Value} {A : Around} {outer : List Env} {s : Shared} {H : Hp} {Ex : XK} {b : Nat} (hr : Room k (A.deeper (envOfC "_law_told" (defScope (top 37)) s.heap.objs.size fa cdv))) :
    PSs (cxOf (L2.CX P w) P w g.K mg base ["kind", "one", "other", "third", "most", "caught", "found", "e"] "_law_told" (defScope (top 37)) fa cdv A outer s H Ex) (defBody (top 37)) (rdS g LW (callE LW Pr k) (fun cls d _ H => Ex cls d H) b i__law_told) :=
  (rs_cons (rs_set (i := 5) sc__law_told.nd rfl (Or.inl rfl) re_non)
  (rs_cons (rs_set (i := 6) sc__law_told.nd rfl (Or.inl rfl) re_non)
  (rs_cons (rs_try (i := 7) (j := 5) (cv := .ref (g.C 0)) rfl rfl rfl rfl sc__law_told.nd rfl rfl (by decide) rfl rfl ⟨rfl, by decide, Or.inl T.x_MirrorError.gC⟩ T.me (by decide) (by decide) (fun W pn xe tk po => (rs_one (rs_if (rt_cmp (op_eqE rfl hr.units) (re_arg (pv 0)) re_int (nomark _)) (rs_one (rs_set (i := 6) sc__law_told.nd rfl (Or.inl rfl) (re_call rfl tk Fk.fn_exchanging hr rfl (ra_cons (re_arg (pv 1)) (ra_cons (re_arg (pv 2)) ra_nil))))) (rs_one (rs_set (i := 6) sc__law_told.nd rfl (Or.inl rfl) (re_ifx (rt_cmp (op_eqE rfl hr.units) (re_arg (pv 0)) re_int (nomark _)) (re_call rfl tk Fk.fn_turned hr rfl (ra_cons (re_arg (pv 1)) (ra_cons (re_arg (pv 2)) ra_nil))) (re_call rfl tk Fk.fn_comes_back hr rfl (ra_cons (re_arg (pv 1)) (ra_cons (re_arg (pv 2)) (ra_cons (re_arg (pv 3)) (ra_cons (re_arg (pv 4)) ra_nil))))))))))))
  (rs_one (rs_ret (re_ifx (rt_isN (re_arg (pv 5))) (re_var (pv 6)) (re_call rfl (takes_of rfl rfl rfl rfl) Fk.fn__law_refusal hr rfl (ra_cons (re_arg (pv 5)) ra_nil))))))))
theorem sc__law_mirror : FnScope ["some", "glass", "own", "by", "k"] ["some", "glass"] (defScope (top 38)) := ⟨rfl, rfl, rfl, by decide +kernel, rfl, by decide +kernel, by decide +kernel⟩
theorem dv__law_mirror (T : Tx g mg) (Fk : Fns g P w mg base k) {fa : Addr} {cdv : Value} {A : Around} {outer : List Env} {s : Shared} {H : Hp} {Ex : XK} {b : Nat} (hr : Room k (A.deeper (envOfC "_law_mirror" (defScope (top 38)) s.heap.objs.size fa cdv))) :
    PSs (cxOf (L2.CX P w) P w g.K mg base ["some", "glass", "own", "by", "k"] "_law_mirror" (defScope (top 38)) fa cdv A outer s H Ex) (defBody (top 38)) (rdS g LW (callE LW Pr k) (fun cls d _ H => Ex cls d H) b i__law_mirror) :=
  (rs_cons (rs_set (i := 2) sc__law_mirror.nd rfl (Or.inr rfl) (re_call rfl (takes_of rfl rfl rfl rfl) Fk.fn__law_product hr rfl (ra_cons (re_arg (pv 1)) (ra_cons (re_arg (pv 1)) ra_nil))))
  (rs_cons (rs_set (i := 3) sc__law_mirror.nd rfl (Or.inr rfl) (re_bin (op_mulD rfl) re_int (re_call rfl (takes_of rfl rfl rfl rfl) Fk.fn__law_product hr rfl (ra_cons (re_arg (pv 0)) (ra_cons (re_arg (pv 1)) ra_nil)))))
  (rs_one (rs_ret (re_call rfl (takes_of rfl rfl rfl rfl) Fk.fn__law_tidy hr rfl (ra_cons (re_comp (own := [("k", 4)]) rfl sc__law_mirror.nd (ri_rng1 rfl T.f_range re_int) (blkOk_by (own := [("k", 4)]) (by kernel_rfl)) (fun _ _ _ _ _ => (rg_name (pg_name (i := 4) sc__law_mirror.nd rfl (Or.inl rfl)))) (fun _ _ _ _ _ => rts_nil) (fun _ _ _ _ _ => (re_bin (op_subD) (re_bin (op_mulD rfl) (re_arg (pv 2)) (re_idx rfl (re_arg (pv 0)) (re_arg (pv 4)) (fun _ _ => rfl))) (re_bin (op_mulD rfl) (re_arg (pv 3)) (re_idx rfl (re_arg (pv 1)) (re_arg (pv 4)) (fun _ _ => rfl))))) (by decide)) ra_nil))))))
theorem sc__law_root : FnScope ["number", "found", "low", "middle_now"] ["number"] (defScope (top 39)) := ⟨rfl, rfl, rfl, by decide +kernel, rfl, by decide +kernel, by decide +kernel⟩
theorem dv__law_root (T : Tx g mg) (Fk : Fns g P w mg base k) {fa : Addr} {cdv : Value} {A : Around} {outer : List Env} {s : Shared} {H : Hp} {Ex : XK} {b : Nat} (hr : Room k (A.deeper (envOfC "_law_root" (defScope (top 39)) s.heap.objs.size fa cdv))) :
    PSs (cxOf (L2.CX P w) P w g.K mg base ["number", "found", "low", "middle_now"] "_law_root" (defScope (top 39)) fa cdv A outer s H Ex) (defBody (top 39)) (rdS g LW (callE LW Pr k) (fun cls d _ H => Ex cls d H) b i__law_root) :=
  (rs_cons (rs_if (rt_cmp (op_ltE) (re_arg (pv 0)) re_int (nomark _)) (rs_one (rs_ret re_non)) rs_nil)
  (rs_cons (rs_set (i := 1) sc__law_root.nd rfl (Or.inl rfl) re_int)
  (rs_cons (rs_while (passes_of rfl) (rt_cmp (op_ltE) (re_bin (op_mulD rfl) (re_arg (pv 1)) (re_arg (pv 1))) (re_arg (pv 0)) (nomark _)) (rs_one (rs_set (i := 1) sc__law_root.nd rfl (Or.inl rfl) (re_bin (op_mulD rfl) re_int (re_arg (pv 1))))))
  (rs_cons (rs_set (i := 2) sc__law_root.nd rfl (Or.inl rfl) re_int)
  (rs_cons (rs_while (passes_of rfl) (rt_cmp (op_ltE) (re_arg (pv 2)) (re_arg (pv 1)) (nomark _)) (rs_cons (rs_set (i := 3) sc__law_root.nd rfl (Or.inl rfl) (re_bin (op_fdivD) (re_bin (op_addD rfl) (re_arg (pv 2)) (re_arg (pv 1))) re_int))
  (rs_one (rs_if (rt_cmp (op_ltE) (re_bin (op_mulD rfl) (re_arg (pv 3)) (re_arg (pv 3))) (re_arg (pv 0)) (nomark _)) (rs_one (rs_set (i := 2) sc__law_root.nd rfl (Or.inl rfl) (re_bin (op_addD rfl) (re_arg (pv 3)) re_int))) (rs_one (rs_set (i := 1) sc__law_root.nd rfl (Or.inl rfl) (re_var (pv 3))))))))
  (rs_one (rs_ret (re_ifx (rt_cmp (op_eqE rfl hr.units) (re_bin (op_mulD rfl) (re_arg (pv 2)) (re_arg (pv 2))) (re_arg (pv 0)) (nomark _)) (re_var (pv 2)) re_non))))))))
theorem sc__law_comes : FnScope ["script", "town", "one", "glass", "lines", "first", "second", "most", "due", "here", "k"] ["script", "town", "one", "glass"] (defScope (top 40)) := ⟨rfl, rfl, rfl, by decide +kernel, rfl, by decide +kernel, by decide +kernel⟩
theorem dv__law_comes (T : Tx g mg) (Fk : Fns g P w mg base k) {fa : Addr} {cdv : Value} {A : Around} {outer : List Env} {s : Shared} {H : Hp} {Ex : XK} {b : Nat} (hr : Room k (A.deeper (envOfC "_law_comes" (defScope (top 40)) s.heap.objs.size fa cdv))) :
    PSs (cxOf (L2.CX P w) P w g.K mg base ["script", "town", "one", "glass", "lines", "first", "second", "most", "due", "here", "k"] "_law_comes" (defScope (top 40)) fa cdv A outer s H Ex) (defBody (top 40)) (rdS g LW (callE LW Pr k) (fun cls d _ H => Ex cls d H) b i__law_comes) :=
  (rs_cons (rs_set (i := 4) sc__law_comes.nd rfl (Or.inl rfl) (re_lst (ra_cons (re_tup (ra_cons re_int (ra_cons re_int (ra_cons re_int (ra_cons re_int ra_nil))))) (ra_cons (re_tup (ra_cons re_int (ra_cons re_int (ra_cons re_int (ra_cons re_int ra_nil))))) (ra_cons (re_tup (ra_cons re_int (ra_cons re_int (ra_cons re_int (ra_cons re_int ra_nil))))) (ra_cons (re_tup (ra_cons re_int (ra_cons re_int (ra_cons (re_neg re_int) (ra_cons re_int ra_nil))))) (ra_cons (re_tup (ra_cons re_int (ra_cons re_int (ra_cons re_int (ra_cons (re_neg re_int) ra_nil))))) (ra_cons (re_tup (ra_cons re_int (ra_cons re_int (ra_cons re_int (ra_cons re_int ra_nil))))) (ra_cons (re_tup (ra_cons re_int (ra_cons re_int (ra_cons re_int (ra_cons (re_neg re_int) ra_nil))))) ra_nil)))))))))
  (rs_cons (rs_set (i := 5) sc__law_comes.nd rfl (Or.inr rfl) (re_call rfl (takes_of rfl rfl rfl rfl) Fk.fn__law_pick hr rfl (ra_cons (re_arg (pv 0)) (ra_cons (re_arg (pv 1)) (ra_cons (re_arg (pv 4)) ra_nil)))))
  (rs_cons (rs_set (i := 6) sc__law_comes.nd rfl (Or.inr rfl) (re_call rfl (takes_of rfl rfl rfl rfl) Fk.fn__law_pick hr rfl (ra_cons (re_arg (pv 0)) (ra_cons (re_arg (pv 1)) (ra_cons (re_bin (op_addD rfl) (re_arg (pv 4)) (re_lst (ra_cons (re_var (pv 3)) ra_nil))) ra_nil)))))
  (rs_cons (rs_set (i := 7) sc__law_comes.nd rfl (Or.inl rfl) (re_call rfl (takes_of rfl rfl rfl rfl) Fk.fn__law_draw hr rfl (ra_cons (re_arg (pv 0)) (ra_cons (re_arg (pv 1)) (ra_cons re_int ra_nil)))))
  (rs_cons (rs_set (i := 8) sc__law_comes.nd rfl (Or.inl rfl) re_non)
  (rs_cons (rs_set (i := 9) sc__law_comes.nd rfl (Or.inl rfl) (re_var (pv 2)))
  (rs_cons (rs_for (passes_of rfl) rfl (ri_rng1 rfl T.f_range (re_bltF (cb_min2 rfl) rfl T.f_min (by decide +kernel) (ra_cons (re_arg (pv 7)) (ra_cons re_int ra_nil)))) (rg_name (pg_name (i := 10) sc__law_comes.nd rfl (Or.inl rfl))) (rs_cons (rs_set (i := 9) sc__law_comes.nd rfl (Or.inl rfl) (re_call rfl (takes_of rfl rfl rfl rfl) Fk.fn__law_mirror hr rfl (ra_cons (re_call rfl (takes_of rfl rfl rfl rfl) Fk.fn__law_mirror hr rfl (ra_cons (re_arg (pv 9)) (ra_cons (re_arg (pv 5)) ra_nil))) (ra_cons (re_arg (pv 6)) ra_nil))))
  (rs_one (rs_if (PW.pt (rw_and (rt_isN (re_arg (pv 8))) (rw_and1 (rt_cmp (op_eqE rfl hr.units) (re_arg (pv 9)) (re_arg (pv 2)) (nomark _))))) (rs_one (rs_set (i := 8) sc__law_comes.nd rfl (Or.inl rfl) (re_bin (op_addD rfl) (re_arg (pv 10)) re_int))) rs_nil))))
  (rs_cons (rs_if (PW.pt (rw_and (PW.pt (rw_or (rt_cmp (op_ltE) (re_arg (pv 7)) re_int (nomark _)) (rw_or1 (rt_notN (re_arg (pv 8)))))) (rw_and1 (rt_cmp (op_neE rfl hr.units) (re_call rfl (takes_of rfl rfl rfl rfl) Fk.fn__law_told hr rfl (ra_cons re_int (ra_cons (re_arg (pv 2)) (ra_cons (re_arg (pv 5)) (ra_cons (re_arg (pv 6)) (ra_cons (re_arg (pv 7)) ra_nil)))))) (re_arg (pv 8)) (nomark _))))) (rs_one (rs_ret re_bl)) rs_nil)
  (rs_cons (rs_if (PW.pt (rw_and (rt_notN (re_arg (pv 8))) (rw_and1 (rt_notN (re_call rfl (takes_of rfl rfl rfl rfl) Fk.fn__law_told hr rfl (ra_cons re_int (ra_cons (re_arg (pv 2)) (ra_cons (re_arg (pv 5)) (ra_cons (re_arg (pv 6)) (ra_cons (re_bin (op_subD) (re_arg (pv 8)) re_int) ra_nil)))))))))) (rs_one (rs_ret re_bl)) rs_nil)
  (rs_one (rs_ret (re_cmp (op_eqE rfl hr.units) (re_comp (own := [("k", 10)]) rfl sc__law_comes.nd (ri_seq (re_tup (ra_cons (re_neg re_int) (ra_cons re_int ra_nil)))) (blkOk_by (own := [("k", 10)]) (by kernel_rfl)) (fun _ _ _ _ _ => (rg_name (pg_name (i := 10) sc__law_comes.nd rfl (Or.inl rfl)))) (fun _ _ _ _ _ => rts_nil) (fun _ _ _ _ _ => (re_call rfl tk0 Fk.fn__law_told hr rfl (ra_cons re_int (ra_cons (re_arg (pv 2)) (ra_cons (re_arg (pv 5)) (ra_cons (re_arg (pv 6)) (ra_cons (re_arg (pv 10)) ra_nil))))))) (by decide)) (re_bin (op_mulD rfl) (re_lst (ra_cons (re_tup (ra_cons re_str (ra_cons re_str ra_nil))) ra_nil)) re_int) (nomark _)))))))))))))
theorem sc_law : FnScope ["script", "town", "one", "glass", "other", "root", "found", "glasses", "here", "some", "k"] ["script"] (defScope (top 41)) := ⟨rfl, rfl, rfl, by decide +kernel, rfl, by decide +kernel, by decide +kernel⟩
theorem dv_law (T : Tx g mg) (Fk : Fns g P w mg base k) {fa : Addr} {cdv : Value} {A : Around} {outer : List Env} {s : Shared} {H : Hp} {Ex : XK} {b : Nat} (hr : Room k (A.deeper (envOfC "law" (defScope (top 41)) s.heap.objs.size fa cdv))) :
    PSs (cxOf (L2.CX P w) P w g.K mg base ["script", "town", "one", "glass", "other", "root", "found", "glasses", "here", "some", "k"] "law" (defScope (top 41)) fa cdv A outer s H Ex) (defBody (top 41)) (rdS g LW (callE LW Pr k) (fun cls d _ H => Ex cls d H) b i_law) :=
  (rs_cons (rs_setM (i := 1) (k := 0) sc_law.nd rfl (Or.inr rfl) (rf_lst ra_nil))
  (rs_cons (rs_set (i := 2) sc_law.nd rfl (Or.inr rfl) (re_call rfl (takes_of rfl rfl rfl rfl) Fk.fn__law_circle hr rfl (ra_cons (re_arg (pv 0)) (ra_cons (re_arg (pv 1)) ra_nil))))
  (rs_cons (rs_set (i := 3) sc_law.nd rfl (Or.inl rfl) (re_call rfl (takes_of rfl rfl rfl rfl) Fk.fn__law_circle hr rfl (ra_cons (re_arg (pv 0)) (ra_cons (re_arg (pv 1)) ra_nil))))
  (rs_cons (rs_set (i := 4) sc_law.nd rfl (Or.inr rfl) (re_call rfl (takes_of rfl rfl rfl rfl) Fk.fn__law_pick hr rfl (ra_cons (re_arg (pv 0)) (ra_cons (re_arg (pv 1)) (ra_cons (re_lst (ra_cons (re_call rfl (takes_of rfl rfl rfl rfl) Fk.fn__law_circle hr rfl (ra_cons (re_arg (pv 0)) (ra_cons (re_arg (pv 1)) ra_nil))) (ra_cons (re_call rfl (takes_of rfl rfl rfl rfl) Fk.fn_mirrored hr rfl (ra_cons (re_arg (pv 2)) (ra_cons (re_arg (pv 3)) ra_nil))) (ra_cons (re_call rfl (takes_of rfl rfl rfl rfl) Fk.fn_mirrored hr rfl (ra_cons (re_arg (pv 2)) (ra_cons (re_arg (pv 3)) ra_nil))) (ra_cons (re_var (pv 2)) ra_nil))))) ra_nil)))))
  (rs_cons (rs_set (i := 5) sc_law.nd rfl (Or.inl rfl) (re_call rfl (takes_of rfl rfl rfl rfl) Fk.fn__law_root hr rfl (ra_cons (re_bin (op_mulD rfl) (re_call rfl (takes_of rfl rfl rfl rfl) Fk.fn__law_product hr rfl (ra_cons (re_arg (pv 2)) (ra_cons (re_arg (pv 2)) ra_nil))) (re_call rfl (takes_of rfl rfl rfl rfl) Fk.fn__law_product hr rfl (ra_cons (re_arg (pv 4)) (ra_cons (re_arg (pv 4)) ra_nil)))) ra_nil)))
  (rs_cons (rs_set (i := 6) sc_law.nd rfl (Or.inl rfl) (re_call rfl (takes_of rfl rfl rfl rfl) Fk.fn__law_told hr rfl (ra_cons re_int (ra_cons (re_arg (pv 2)) (ra_cons (re_arg (pv 4)) (ra_cons re_int (ra_cons re_int ra_nil)))))))
  (rs_cons (rs_if (PW.pt (rw_or (rt_cmp (op_eqE rfl hr.units) (re_arg (pv 2)) (re_arg (pv 4)) (nomark _)) (rw_or1 (rt_isN (re_arg (pv 5)))))) (rs_one (rs_if (rt_cmp (op_neE rfl hr.units) (re_arg (pv 6)) (re_tup (ra_cons re_str (ra_cons re_str ra_nil))) (nomark _)) (rs_one (rs_ret re_bl)) rs_nil)) (rs_cons (rs_if (PW.pt (rw_or (rt_cmp (op_neE rfl hr.units) (re_arg (pv 6)) (re_bltF (cb_srt rfl) rfl T.f_sorted (by decide +kernel) (ra_cons (re_arg (pv 6)) ra_nil)) (nomark _)) (rw_or1 (rt_cmp (op_neE rfl hr.units) (re_nset rfl rfl hr.units T.f_len rfl T.f_set rfl (re_arg (pv 6))) (re_len rfl T.f_len rfl (ra_cons (re_arg (pv 6)) ra_nil)) (nomark _))))) (rs_one (rs_ret re_bl)) rs_nil)
  (rs_cons (rs_if (rt_cmp (op_neE rfl hr.units) (re_comp (own := [("some", 9)]) rfl sc_law.nd (ri_seq (re_var (pv 6))) (blkOk_by (own := [("some", 9)]) (by kernel_rfl)) (fun _ _ _ _ _ => (rg_name (pg_name (i := 9) sc_law.nd rfl (Or.inl rfl)))) (fun _ _ _ _ _ => (rts_one (PW.pt (rw_or (rt_cmp (op_neE rfl hr.units) (re_call rfl tk0 Fk.fn_mirrored hr rfl (ra_cons (re_arg (pv 2)) (ra_cons (re_arg (pv 9)) ra_nil))) (re_arg (pv 4)) (nomark _)) (rw_or1 (rt_cmp (op_neE rfl hr.units) (re_call rfl tk0 Fk.fn_mirrored hr rfl (ra_cons (re_arg (pv 4)) (ra_cons (re_arg (pv 9)) ra_nil))) (re_arg (pv 2)) (nomark _))))))) (fun _ _ _ _ _ => (re_var (pv 9))) (by decide)) (re_lst ra_nil) (nomark _)) (rs_one (rs_ret re_bl)) rs_nil)
  (rs_cons (rs_if (rt_cmp (op_neE rfl hr.units) (re_len rfl T.f_len rfl (ra_cons (re_arg (pv 6)) ra_nil)) (re_ifx (rt_cmp (op_eqE rfl hr.units) (re_call rfl (takes_of rfl rfl rfl rfl) Fk.fn_meeting hr rfl (ra_cons (re_arg (pv 2)) (ra_cons (re_arg (pv 4)) ra_nil))) re_str (nomark _)) re_int re_int) (nomark _)) (rs_one (rs_ret re_bl)) rs_nil)
  (rs_cons (rs_if (PW.pt (rw_and (rt_cmp (op_eqE rfl hr.units) (re_len rfl T.f_len rfl (ra_cons (re_arg (pv 6)) ra_nil)) re_int (nomark _)) (rw_and1 (rt_not (rt_tru rfl (re_call rfl (takes_of rfl rfl rfl rfl) Fk.fn_is_right hr rfl (ra_cons (re_idx rfl (re_arg (pv 6)) re_int (fun _ _ => rfl)) (ra_cons (re_idx rfl (re_arg (pv 6)) re_int (fun _ _ => rfl)) ra_nil)))))))) (rs_one (rs_ret re_bl)) rs_nil)
  (rs_one (rs_if (PW.pt (rw_and (rt_cmp (op_eqE rfl hr.units) (re_arg (pv 4)) (re_call rfl (takes_of rfl rfl rfl rfl) Fk.fn_mirrored hr rfl (ra_cons (re_arg (pv 2)) (ra_cons (re_arg (pv 3)) ra_nil))) (nomark _)) (rw_and1 (rt_cmp (op_ninE rfl hr.units) (re_arg (pv 3)) (re_arg (pv 6)) rfl)))) (rs_one (rs_ret re_bl)) rs_nil)))))))
  (rs_cons (rs_setC (i := 7) (own := [("k", 10)]) rfl sc_law.nd rfl rfl (sw_true rfl rfl rfl (by decide +kernel)) (ri_rng1 rfl T.f_range (re_call rfl (takes_of rfl rfl rfl rfl) Fk.fn__law_draw hr rfl (ra_cons (re_arg (pv 0)) (ra_cons (re_arg (pv 1)) (ra_cons re_int ra_nil))))) (blkOk_by (own := [("k", 10)]) (by kernel_rfl)) (fun _ _ _ _ _ => (rg_name (pg_name (i := 10) sc_law.nd rfl (Or.inl rfl)))) (fun _ _ _ _ _ => rts_nil) (fun _ _ _ _ _ => (re_call rfl tk0 Fk.fn__law_circle hr rfl (ra_cons (re_arg (pv 0)) (ra_cons (re_arg (pv 1)) ra_nil)))) (by decide))
  (rs_cons (rs_set (i := 8) sc_law.nd rfl (Or.inl rfl) (re_var (pv 2)))
  (rs_cons (rs_for (passes_of rfl) rfl (ri_seq (re_var (pv 7))) (rg_name (pg_name (i := 9) sc_law.nd rfl (Or.inl rfl))) (rs_one (rs_set (i := 8) sc_law.nd rfl (Or.inl rfl) (re_call rfl (takes_of rfl rfl rfl rfl) Fk.fn__law_mirror hr rfl (ra_cons (re_arg (pv 8)) (ra_cons (re_arg (pv 9)) ra_nil))))))
  (rs_cons (rs_if (rt_cmp (op_neE rfl hr.units) (re_call rfl (takes_of rfl rfl rfl rfl) Fk.fn__law_told hr rfl (ra_cons re_int (ra_cons (re_arg (pv 2)) (ra_cons (re_arg (pv 7)) (ra_cons re_int (ra_cons re_int ra_nil)))))) (re_arg (pv 8)) (nomark _)) (rs_one (rs_ret re_bl)) rs_nil)
  (rs_one (rs_ret (re_call rfl (takes_of rfl rfl rfl rfl) Fk.fn__law_comes hr rfl (ra_cons (re_arg (pv 0)) (ra_cons (re_arg (pv 1)) (ra_cons (re_arg (pv 2)) (ra_cons (re_arg (pv 3)) ra_nil))))))))))))))))))
end
end Lq

namespace Lq
open PySem PySem.Spec PyProof.Rows L2 Cm

def cn : Nat → Str
  | 1 => "BadCircle"
  | 2 => "BadPoint"
  | 3 => "BadFraction"
  | 4 => "NoSuch"
  | 5 => "BadKiss"
  | 6 => "BadNumber"
  | 7 => "BadText"
  | _ => "MirrorError"
abbrev gOf (K : PySem.W.Frag) : Gx := ⟨K, fun k => He.ga K (cn k)⟩
def d_divisor : He.DefD := ⟨("divisor", none), "divisor", "divisor", defArgs (top 10), defBody (top 10), defScope (top 10), [], []⟩
def d_least : He.DefD := ⟨("least", none), "least", "least", defArgs (top 11), defBody (top 11), defScope (top 11), [], []⟩
def d_root_of : He.DefD := ⟨("root_of", none), "root_of", "root_of", defArgs (top 12), defBody (top 12), defScope (top 12), [], []⟩
def d_tidy : He.DefD := ⟨("tidy", none), "tidy", "tidy", defArgs (top 15), defBody (top 15), defScope (top 15), [], []⟩
def d_product : He.DefD := ⟨("product", none), "product", "product", defArgs (top 16), defBody (top 16), defScope (top 16), [], []⟩
def d_look_circle : He.DefD := ⟨("look_circle", none), "look_circle", "look_circle", defArgs (top 17), defBody (top 17), defScope (top 17), [], []⟩
def d_mirror : He.DefD := ⟨("mirror", none), "mirror", "mirror", defArgs (top 20), defBody (top 20), defScope (top 20), [], []⟩
def d_mirrored : He.DefD := ⟨("mirrored", none), "mirrored", "mirrored", defArgs (top 21), defBody (top 21), defScope (top 21), [], []⟩
def d_meeting : He.DefD := ⟨("meeting", none), "meeting", "meeting", defArgs (top 22), defBody (top 22), defScope (top 22), [], []⟩
def d_slant : He.DefD := ⟨("slant", none), "slant", "slant", defArgs (top 23), defBody (top 23), defScope (top 23), [], []⟩
def d_is_right : He.DefD := ⟨("is_right", none), "is_right", "is_right", defArgs (top 24), defBody (top 24), defScope (top 24), [], []⟩
def d_exchanging : He.DefD := ⟨("exchanging", none), "exchanging", "exchanging", defArgs (top 25), defBody (top 25), defScope (top 25), [], []⟩
def d_turned : He.DefD := ⟨("turned", none), "turned", "turned", defArgs (top 26), defBody (top 26), defScope (top 26), [], []⟩
def d_comes_back : He.DefD := ⟨("comes_back", none), "comes_back", "comes_back", defArgs (top 27), defBody (top 27), defScope (top 27), [], []⟩
def d__law_cell : He.DefD := ⟨("_law_cell", none), "_law_cell", "_law_cell", defArgs (top 29), defBody (top 29), defScope (top 29), [], []⟩
def d__law_mix : He.DefD := ⟨("_law_mix", none), "_law_mix", "_law_mix", defArgs (top 30), defBody (top 30), defScope (top 30), [], []⟩
def d__law_draw : He.DefD := ⟨("_law_draw", none), "_law_draw", "_law_draw", defArgs (top 31), defBody (top 31), defScope (top 31), [], []⟩
def d__law_pick : He.DefD := ⟨("_law_pick", none), "_law_pick", "_law_pick", defArgs (top 32), defBody (top 32), defScope (top 32), [], []⟩
def d__law_refusal : He.DefD := ⟨("_law_refusal", none), "_law_refusal", "_law_refusal", defArgs (top 33), defBody (top 33), defScope (top 33), [], []⟩
def d__law_product : He.DefD := ⟨("_law_product", none), "_law_product", "_law_product", defArgs (top 34), defBody (top 34), defScope (top 34), [], []⟩
def d__law_tidy : He.DefD := ⟨("_law_tidy", none), "_law_tidy", "_law_tidy", defArgs (top 35), defBody (top 35), defScope (top 35), [], []⟩
def d__law_circle : He.DefD := ⟨("_law_circle", none), "_law_circle", "_law_circle", defArgs (top 36), defBody (top 36), defScope (top 36), [], []⟩
def d__law_told : He.DefD := ⟨("_law_told", none), "_law_told", "_law_told", defArgs (top 37), defBody (top 37), defScope (top 37), [], []⟩
def d__law_mirror : He.DefD := ⟨("_law_mirror", none), "_law_mirror", "_law_mirror", defArgs (top 38), defBody (top 38), defScope (top 38), [], []⟩
def d__law_root : He.DefD := ⟨("_law_root", none), "_law_root", "_law_root", defArgs (top 39), defBody (top 39), defScope (top 39), [], []⟩
def d__law_comes : He.DefD := ⟨("_law_comes", none), "_law_comes", "_law_comes", defArgs (top 40), defBody (top 40), defScope (top 40), [], []⟩
def d_law : He.DefD := ⟨("law", none), "law", "law", defArgs (top 41), defBody (top 41), defScope (top 41), [], []⟩
def fn : List He.DefD := [d_divisor, d_least, d_root_of, d_tidy, d_product, d_look_circle, d_mirror, d_mirrored, d_meeting, d_slant, d_is_right, d_exchanging, d_turned, d_comes_back, d__law_cell, d__law_mix, d__law_draw, d__law_pick, d__law_refusal, d__law_product, d__law_tidy, d__law_circle, d__law_told, d__law_mirror, d__law_root, d__law_comes, d_law]
def fa : List He.Fa := [.glo "MirrorError", .glo "BadCircle", .glo "BadPoint", .glo "BadFraction", .glo "NoSuch", .glo "BadKiss", .glo "BadNumber", .glo "BadText", .exc "MirrorError", .exc "BadCircle", .exc "BadPoint", .exc "BadFraction", .exc "NoSuch", .exc "BadKiss", .exc "BadNumber", .exc "BadText", .exm "MirrorError" "MirrorError" true, .exm "BadCircle" "MirrorError" true, .exm "BadPoint" "MirrorError" true, .exm "BadFraction" "MirrorError" true, .exm "NoSuch" "MirrorError" true, .exm "BadKiss" "MirrorError" true, .exm "BadNumber" "MirrorError" true, .exm "BadText" "MirrorError" true, .free "ValueError", .free "abs", .free "all", .free "isinstance", .free "len", .free "min", .free "range", .free "set", .free "sorted", .free "tuple", .int "MOST" 1000000000, .int "MOST_TIMES" 30, .glo "divisor", .glo "least", .glo "root_of", .glo "tidy", .glo "product", .glo "look_circle", .glo "mirror", .glo "mirrored", .glo "meeting", .glo "slant", .glo "is_right", .glo "exchanging", .glo "turned", .glo "comes_back", .glo "_law_cell", .glo "_law_mix", .glo "_law_draw", .glo "_law_pick", .glo "_law_refusal", .glo "_law_product", .glo "_law_tidy", .glo "_law_circle", .glo "_law_told", .glo "_law_mirror", .glo "_law_root", .glo "_law_comes", .glo "law"]
def xcB (K : PySem.W.Frag) (D : Addr) : Bool := He.eqO (PySem.W.findIn K (.ref D) "__getattribute__") (some (some (.builtin "BaseException.__getattribute__"))) && (He.eqO (PySem.W.findIn K (.ref D) "__getattr__") (some none) && (decide (PySem.W.subIn K (.ref D) (.type "BaseException") = some true) && (PySem.W.hasDictIn K D &&
  (He.eqO (PySem.W.findIn K (.ref D) "__class__") (some (some (.builtin "object.__class__"))) && (He.eqO (PySem.W.specialIn K (.builtin "object.__class__") "__get__") (some (some (.builtin "getset_descriptor.__get__"))) && (decide (PySem.W.takesIn K (.builtin "object.__class__") = some true) && decide (PySem.W.mroIn K D (.type "object") = some true)))))))
theorem xcB_ok {K : PySem.W.Frag} {D : Addr} (h : xcB K D = true) : ExcC K D := by
  obtain ⟨h1, h⟩ := He.ba h
  obtain ⟨h2, h⟩ := He.ba h
  obtain ⟨h3, h⟩ := He.ba h
  obtain ⟨h4, h⟩ := He.ba h
  obtain ⟨h5, h⟩ := He.ba h
  obtain ⟨h6, h⟩ := He.ba h
  obtain ⟨h7, h8⟩ := He.ba h
  exact ⟨He.eqO_ok h1, He.eqO_ok h2, of_decide_eq_true h3, h4, He.eqO_ok h5, He.eqO_ok h6, of_decide_eq_true h7, of_decide_eq_true h8⟩
def ids : List Nat := [1, 2, 3, 4, 5, 6, 7]
def ck0 (K : PySem.W.Frag) : Bool := ids.all fun j => xcB K (He.ga K (cn j)) && (decide (PySem.W.kitOne K (.ref (He.ga K (cn j))) (.type "ValueError") = some true) && ids.all fun k => decide (PySem.W.kitOne K (.ref (He.ga K (cn j))) (.ref (He.ga K (cn k))) = some (j == k)))
theorem mem_ids {j : Nat} (h : (Nat.ble 1 j && Nat.ble j 7) = true) : j ∈ ids := by
  obtain ⟨h1, h2⟩ := He.ba h
  have h1 := Nat.le_of_ble_eq_true h1
  have h2 := Nat.le_of_ble_eq_true h2
  have : j = 1 ∨ j = 2 ∨ j = 3 ∨ j = 4 ∨ j = 5 ∨ j = 6 ∨ j = 7 := by omega
  rcases this with rfl | rfl | rfl | rfl | rfl | rfl | rfl <;> decide
theorem ck_at {K : PySem.W.Frag} (h : ck0 K = true) {j k : Nat} {b : Bool} (hk : (Nat.ble 1 k && Nat.ble k 7) = true) (e : LW.sub j k = some b) : ExcC K (He.ga K (cn j)) ∧ PySem.W.kitOne K (.ref (He.ga K (cn j))) (.ref (He.ga K (cn k))) = some b := by
  replace e : (if (Nat.ble 1 j && Nat.ble j 7) = true then (if (k == 100) = true then some true else if (Nat.ble 1 k && Nat.ble k 7) = true then some (j == k) else none) else none) = some b := e
  split at e
  · rename_i hj
    have z := List.all_eq_true.mp h j (mem_ids hj)
    obtain ⟨z1, z⟩ := He.ba z
    obtain ⟨z2, z3⟩ := He.ba z
    have z3 := of_decide_eq_true (List.all_eq_true.mp z3 k (mem_ids hk))
    split at e
    · rename_i hc
      have := beq_iff_eq.mp hc
      subst this
      exact absurd hk (by decide)
    · first
        | (cases e; exact ⟨xcB_ok z1, z3⟩)
        | (rw [if_pos hk] at e; cases e; exact ⟨xcB_ok z1, z3⟩)
  · cases e
theorem ck_v {K : PySem.W.Frag} (h : ck0 K = true) {j : Nat} {b : Bool} (e : LW.sub j 100 = some b) : ExcC K (He.ga K (cn j)) ∧ PySem.W.kitOne K (.ref (He.ga K (cn j))) (.type "ValueError") = some b := by
  replace e : (if (Nat.ble 1 j && Nat.ble j 7) = true then some true else none) = some b := e
  split at e
  · rename_i hj
    cases e
    have z := List.all_eq_true.mp h j (mem_ids hj)
    obtain ⟨z1, z⟩ := He.ba z
    obtain ⟨z2, z3⟩ := He.ba z
    exact ⟨xcB_ok z1, of_decide_eq_true z2⟩
  · cases e
def ck (K : PySem.W.Frag) : Bool := ck0 K && [].all (kiB K)
def obK (K : PySem.W.Frag) : He.AlD × Bool := (He.obsD fa fn K, ck K)
def obG (g : Addr → Option Obj) : He.AlD × Bool := obK (He.frG g (He.asD g 4))
def hk : PySem.W.Hook where
  α := He.AlD × Bool
  obs := fun s => obG s.heap.get?
  val := fun _ => (He.valD fn, true)
  says := fun _ h => ∃ K : PySem.W.Frag, K.In h ∧ He.SaysD fa fn K ∧ ck K = true
  of := fun _ _ e => ⟨_, He.frG_in, congrArg (fun z : He.AlD × Bool => z.1) e, congrArg (fun z : He.AlD × Bool => z.2) e⟩
  keeps := fun _ _ _ ⟨K, hK, c⟩ k => ⟨K, PySem.W.Frag.In.keeps hK k, c⟩
def ob (s : PySem.W.SharedT) : He.AlD × Bool := obG (HandSHeadRun.getT s)
theorem ob_eq (s : PySem.W.SharedT) : ob s = hk.obs s.abs := by
  have e : HandSHeadRun.getT s = s.abs.heap.get? := funext (HandSHeadRun.getT_eq s)
  show obG (HandSHeadRun.getT s) = obG s.abs.heap.get?
  rw [e]
abbrev R : PySem.W.OpenRow := PySem.W.OpenLaw.row PySem.Challenge.rw_circlemirrors_k11_whole_exchanging
def ns0 : List PySem.Str := ["MirrorError", "BadCircle", "BadPoint", "BadFraction", "NoSuch", "BadKiss", "BadNumber", "BadText", "MOST", "MOST_TIMES", "divisor", "least", "root_of", "tidy", "product", "look_circle", "mirror", "mirrored", "meeting", "slant", "is_right", "exchanging", "turned", "comes_back", "_law_cell", "_law_mix", "_law_draw", "_law_pick", "_law_refusal", "_law_product"]
def ns1 : List PySem.Str := ["_law_tidy", "_law_circle", "_law_told", "_law_mirror", "_law_root", "_law_comes"]
def names : List PySem.Str := ns0 ++ ns1
theorem run (w : World) : HandSHeadRun.RunEq R (PySem.W.view R.prog [41]) hk ob 6000 names w := by
  intro os
  kernel_rfl
end Lq

namespace Lq
open PySem PySem.Spec PyProof.Rows L2 Cm

section
variable {K : PySem.W.Frag} {h : Heap} {mg : Str → Option Value}
theorem tx (X : K.In h) (G : h.Ns mainGlobals mg) (c : He.SaysD fa fn K) (hc : ck K = true) : Tx (gOf K) mg where
  f_ValueError := He.free_ok X G (c.fact 24 (f := .free "ValueError") rfl)
  f_abs := He.free_ok X G (c.fact 25 (f := .free "abs") rfl)
  f_all := He.free_ok X G (c.fact 26 (f := .free "all") rfl)
  f_isinstance := He.free_ok X G (c.fact 27 (f := .free "isinstance") rfl)
  f_len := He.free_ok X G (c.fact 28 (f := .free "len") rfl)
  f_min := He.free_ok X G (c.fact 29 (f := .free "min") rfl)
  f_range := He.free_ok X G (c.fact 30 (f := .free "range") rfl)
  f_set := He.free_ok X G (c.fact 31 (f := .free "set") rfl)
  f_sorted := He.free_ok X G (c.fact 32 (f := .free "sorted") rfl)
  f_tuple := He.free_ok X G (c.fact 33 (f := .free "tuple") rfl)
  c_MOST := He.int_ok X G (c.fact 34 (f := .int "MOST" 1000000000) rfl)
  c_MOST_TIMES := He.int_ok X G (c.fact 35 (f := .int "MOST_TIMES" 30) rfl)
  x_MirrorError := by
    have z := He.exc_ok (c.fact 8 (f := .exc "MirrorError") rfl)
    exact ⟨He.glo_ok X G (c.fact 0 (f := .glo "MirrorError") rfl), z.1, z.2.1, z.2.2.1, z.2.2.2⟩
  x_BadCircle := by
    have z := He.exc_ok (c.fact 9 (f := .exc "BadCircle") rfl)
    exact ⟨He.glo_ok X G (c.fact 1 (f := .glo "BadCircle") rfl), z.1, z.2.1, z.2.2.1, z.2.2.2⟩
  x_BadPoint := by
    have z := He.exc_ok (c.fact 10 (f := .exc "BadPoint") rfl)
    exact ⟨He.glo_ok X G (c.fact 2 (f := .glo "BadPoint") rfl), z.1, z.2.1, z.2.2.1, z.2.2.2⟩
  x_BadFraction := by
    have z := He.exc_ok (c.fact 11 (f := .exc "BadFraction") rfl)
    exact ⟨He.glo_ok X G (c.fact 3 (f := .glo "BadFraction") rfl), z.1, z.2.1, z.2.2.1, z.2.2.2⟩
  x_NoSuch := by
    have z := He.exc_ok (c.fact 12 (f := .exc "NoSuch") rfl)
    exact ⟨He.glo_ok X G (c.fact 4 (f := .glo "NoSuch") rfl), z.1, z.2.1, z.2.2.1, z.2.2.2⟩
  x_BadKiss := by
    have z := He.exc_ok (c.fact 13 (f := .exc "BadKiss") rfl)
    exact ⟨He.glo_ok X G (c.fact 5 (f := .glo "BadKiss") rfl), z.1, z.2.1, z.2.2.1, z.2.2.2⟩
  x_BadNumber := by
    have z := He.exc_ok (c.fact 14 (f := .exc "BadNumber") rfl)
    exact ⟨He.glo_ok X G (c.fact 6 (f := .glo "BadNumber") rfl), z.1, z.2.1, z.2.2.1, z.2.2.2⟩
  x_BadText := by
    have z := He.exc_ok (c.fact 15 (f := .exc "BadText") rfl)
    exact ⟨He.glo_ok X G (c.fact 7 (f := .glo "BadText") rfl), z.1, z.2.1, z.2.2.1, z.2.2.2⟩
  hL := fun k hk j b e => ck_at (He.ba hc).1 hk e
  hLv := fun j b e => ck_v (He.ba hc).1 e
  me := fun k => by
    show PySem.W.exmOne K (.ref (He.ga K (cn k))) (.ref (He.ga K "MirrorError")) = some true
    match k with
    | 1 => exact He.exm_ok (c.fact 17 (f := .exm "BadCircle" "MirrorError" true) rfl)
    | 2 => exact He.exm_ok (c.fact 18 (f := .exm "BadPoint" "MirrorError" true) rfl)
    | 3 => exact He.exm_ok (c.fact 19 (f := .exm "BadFraction" "MirrorError" true) rfl)
    | 4 => exact He.exm_ok (c.fact 20 (f := .exm "NoSuch" "MirrorError" true) rfl)
    | 5 => exact He.exm_ok (c.fact 21 (f := .exm "BadKiss" "MirrorError" true) rfl)
    | 6 => exact He.exm_ok (c.fact 22 (f := .exm "BadNumber" "MirrorError" true) rfl)
    | 7 => exact He.exm_ok (c.fact 23 (f := .exm "BadText" "MirrorError" true) rfl)
    | 0 => exact He.exm_ok (c.fact 16 (f := .exm "MirrorError" "MirrorError" true) rfl)
    | n + 8 => exact He.exm_ok (c.fact 16 (f := .exm "MirrorError" "MirrorError" true) rfl)
structure Ds (K : PySem.W.Frag) (mg : Str → Option Value) : Prop where
  g_divisor : mg "divisor" = some (.ref (He.ga K "divisor"))
  d_divisor : ∃ fd, FunD K "divisor" "divisor" (defArgs (top 10)) (defBody (top 10)) (defScope (top 10)) [] [] (He.ga K "divisor") fd
  g_least : mg "least" = some (.ref (He.ga K "least"))
  d_least : ∃ fd, FunD K "least" "least" (defArgs (top 11)) (defBody (top 11)) (defScope (top 11)) [] [] (He.ga K "least") fd
  g_root_of : mg "root_of" = some (.ref (He.ga K "root_of"))
  d_root_of : ∃ fd, FunD K "root_of" "root_of" (defArgs (top 12)) (defBody (top 12)) (defScope (top 12)) [] [] (He.ga K "root_of") fd
  g_tidy : mg "tidy" = some (.ref (He.ga K "tidy"))
  d_tidy : ∃ fd, FunD K "tidy" "tidy" (defArgs (top 15)) (defBody (top 15)) (defScope (top 15)) [] [] (He.ga K "tidy") fd
  g_product : mg "product" = some (.ref (He.ga K "product"))
  d_product : ∃ fd, FunD K "product" "product" (defArgs (top 16)) (defBody (top 16)) (defScope (top 16)) [] [] (He.ga K "product") fd
  g_look_circle : mg "look_circle" = some (.ref (He.ga K "look_circle"))
  d_look_circle : ∃ fd, FunD K "look_circle" "look_circle" (defArgs (top 17)) (defBody (top 17)) (defScope (top 17)) [] [] (He.ga K "look_circle") fd
  g_mirror : mg "mirror" = some (.ref (He.ga K "mirror"))
  d_mirror : ∃ fd, FunD K "mirror" "mirror" (defArgs (top 20)) (defBody (top 20)) (defScope (top 20)) [] [] (He.ga K "mirror") fd
  g_mirrored : mg "mirrored" = some (.ref (He.ga K "mirrored"))
  d_mirrored : ∃ fd, FunD K "mirrored" "mirrored" (defArgs (top 21)) (defBody (top 21)) (defScope (top 21)) [] [] (He.ga K "mirrored") fd
  g_meeting : mg "meeting" = some (.ref (He.ga K "meeting"))
  d_meeting : ∃ fd, FunD K "meeting" "meeting" (defArgs (top 22)) (defBody (top 22)) (defScope (top 22)) [] [] (He.ga K "meeting") fd
  g_slant : mg "slant" = some (.ref (He.ga K "slant"))
  d_slant : ∃ fd, FunD K "slant" "slant" (defArgs (top 23)) (defBody (top 23)) (defScope (top 23)) [] [] (He.ga K "slant") fd
  g_is_right : mg "is_right" = some (.ref (He.ga K "is_right"))
  d_is_right : ∃ fd, FunD K "is_right" "is_right" (defArgs (top 24)) (defBody (top 24)) (defScope (top 24)) [] [] (He.ga K "is_right") fd
  g_exchanging : mg "exchanging" = some (.ref (He.ga K "exchanging"))
  d_exchanging : ∃ fd, FunD K "exchanging" "exchanging" (defArgs (top 25)) (defBody (top 25)) (defScope (top 25)) [] [] (He.ga K "exchanging") fd
  g_turned : mg "turned" = some (.ref (He.ga K "turned"))
  d_turned : ∃ fd, FunD K "turned" "turned" (defArgs (top 26)) (defBody (top 26)) (defScope (top 26)) [] [] (He.ga K "turned") fd
  g_comes_back : mg "comes_back" = some (.ref (He.ga K "comes_back"))
  d_comes_back : ∃ fd, FunD K "comes_back" "comes_back" (defArgs (top 27)) (defBody (top 27)) (defScope (top 27)) [] [] (He.ga K "comes_back") fd
  g__law_cell : mg "_law_cell" = some (.ref (He.ga K "_law_cell"))
  d__law_cell : ∃ fd, FunD K "_law_cell" "_law_cell" (defArgs (top 29)) (defBody (top 29)) (defScope (top 29)) [] [] (He.ga K "_law_cell") fd
  g__law_mix : mg "_law_mix" = some (.ref (He.ga K "_law_mix"))
  d__law_mix : ∃ fd, FunD K "_law_mix" "_law_mix" (defArgs (top 30)) (defBody (top 30)) (defScope (top 30)) [] [] (He.ga K "_law_mix") fd
  g__law_draw : mg "_law_draw" = some (.ref (He.ga K "_law_draw"))
  d__law_draw : ∃ fd, FunD K "_law_draw" "_law_draw" (defArgs (top 31)) (defBody (top 31)) (defScope (top 31)) [] [] (He.ga K "_law_draw") fd
  g__law_pick : mg "_law_pick" = some (.ref (He.ga K "_law_pick"))
  d__law_pick : ∃ fd, FunD K "_law_pick" "_law_pick" (defArgs (top 32)) (defBody (top 32)) (defScope (top 32)) [] [] (He.ga K "_law_pick") fd
  g__law_refusal : mg "_law_refusal" = some (.ref (He.ga K "_law_refusal"))
  d__law_refusal : ∃ fd, FunD K "_law_refusal" "_law_refusal" (defArgs (top 33)) (defBody (top 33)) (defScope (top 33)) [] [] (He.ga K "_law_refusal") fd
  g__law_product : mg "_law_product" = some (.ref (He.ga K "_law_product"))
  d__law_product : ∃ fd, FunD K "_law_product" "_law_product" (defArgs (top 34)) (defBody (top 34)) (defScope (top 34)) [] [] (He.ga K "_law_product") fd
  g__law_tidy : mg "_law_tidy" = some (.ref (He.ga K "_law_tidy"))
  d__law_tidy : ∃ fd, FunD K "_law_tidy" "_law_tidy" (defArgs (top 35)) (defBody (top 35)) (defScope (top 35)) [] [] (He.ga K "_law_tidy") fd
  g__law_circle : mg "_law_circle" = some (.ref (He.ga K "_law_circle"))
  d__law_circle : ∃ fd, FunD K "_law_circle" "_law_circle" (defArgs (top 36)) (defBody (top 36)) (defScope (top 36)) [] [] (He.ga K "_law_circle") fd
  g__law_told : mg "_law_told" = some (.ref (He.ga K "_law_told"))
  d__law_told : ∃ fd, FunD K "_law_told" "_law_told" (defArgs (top 37)) (defBody (top 37)) (defScope (top 37)) [] [] (He.ga K "_law_told") fd
  g__law_mirror : mg "_law_mirror" = some (.ref (He.ga K "_law_mirror"))
  d__law_mirror : ∃ fd, FunD K "_law_mirror" "_law_mirror" (defArgs (top 38)) (defBody (top 38)) (defScope (top 38)) [] [] (He.ga K "_law_mirror") fd
  g__law_root : mg "_law_root" = some (.ref (He.ga K "_law_root"))
  d__law_root : ∃ fd, FunD K "_law_root" "_law_root" (defArgs (top 39)) (defBody (top 39)) (defScope (top 39)) [] [] (He.ga K "_law_root") fd
  g__law_comes : mg "_law_comes" = some (.ref (He.ga K "_law_comes"))
  d__law_comes : ∃ fd, FunD K "_law_comes" "_law_comes" (defArgs (top 40)) (defBody (top 40)) (defScope (top 40)) [] [] (He.ga K "_law_comes") fd
  g_law : mg "law" = some (.ref (He.ga K "law"))
  d_law : ∃ fd, FunD K "law" "law" (defArgs (top 41)) (defBody (top 41)) (defScope (top 41)) [] [] (He.ga K "law") fd
theorem ds (X : K.In h) (G : h.Ns mainGlobals mg) (c : He.SaysD fa fn K) : Ds K mg where
  g_divisor := He.glo_ok X G (c.fact 36 (f := .glo "divisor") rfl)
  d_divisor := c.def_ 0 (d := d_divisor) rfl
  g_least := He.glo_ok X G (c.fact 37 (f := .glo "least") rfl)
  d_least := c.def_ 1 (d := d_least) rfl
  g_root_of := He.glo_ok X G (c.fact 38 (f := .glo "root_of") rfl)
  d_root_of := c.def_ 2 (d := d_root_of) rfl
  g_tidy := He.glo_ok X G (c.fact 39 (f := .glo "tidy") rfl)
  d_tidy := c.def_ 3 (d := d_tidy) rfl
  g_product := He.glo_ok X G (c.fact 40 (f := .glo "product") rfl)
  d_product := c.def_ 4 (d := d_product) rfl
  g_look_circle := He.glo_ok X G (c.fact 41 (f := .glo "look_circle") rfl)
  d_look_circle := c.def_ 5 (d := d_look_circle) rfl
  g_mirror := He.glo_ok X G (c.fact 42 (f := .glo "mirror") rfl)
  d_mirror := c.def_ 6 (d := d_mirror) rfl
  g_mirrored := He.glo_ok X G (c.fact 43 (f := .glo "mirrored") rfl)
  d_mirrored := c.def_ 7 (d := d_mirrored) rfl
  g_meeting := He.glo_ok X G (c.fact 44 (f := .glo "meeting") rfl)
  d_meeting := c.def_ 8 (d := d_meeting) rfl
  g_slant := He.glo_ok X G (c.fact 45 (f := .glo "slant") rfl)
  d_slant := c.def_ 9 (d := d_slant) rfl
  g_is_right := He.glo_ok X G (c.fact 46 (f := .glo "is_right") rfl)
  d_is_right := c.def_ 10 (d := d_is_right) rfl
  g_exchanging := He.glo_ok X G (c.fact 47 (f := .glo "exchanging") rfl)
  d_exchanging := c.def_ 11 (d := d_exchanging) rfl
  g_turned := He.glo_ok X G (c.fact 48 (f := .glo "turned") rfl)
  d_turned := c.def_ 12 (d := d_turned) rfl
  g_comes_back := He.glo_ok X G (c.fact 49 (f := .glo "comes_back") rfl)
  d_comes_back := c.def_ 13 (d := d_comes_back) rfl
  g__law_cell := He.glo_ok X G (c.fact 50 (f := .glo "_law_cell") rfl)
  d__law_cell := c.def_ 14 (d := d__law_cell) rfl
  g__law_mix := He.glo_ok X G (c.fact 51 (f := .glo "_law_mix") rfl)
  d__law_mix := c.def_ 15 (d := d__law_mix) rfl
  g__law_draw := He.glo_ok X G (c.fact 52 (f := .glo "_law_draw") rfl)
  d__law_draw := c.def_ 16 (d := d__law_draw) rfl
  g__law_pick := He.glo_ok X G (c.fact 53 (f := .glo "_law_pick") rfl)
  d__law_pick := c.def_ 17 (d := d__law_pick) rfl
  g__law_refusal := He.glo_ok X G (c.fact 54 (f := .glo "_law_refusal") rfl)
  d__law_refusal := c.def_ 18 (d := d__law_refusal) rfl
  g__law_product := He.glo_ok X G (c.fact 55 (f := .glo "_law_product") rfl)
  d__law_product := c.def_ 19 (d := d__law_product) rfl
  g__law_tidy := He.glo_ok X G (c.fact 56 (f := .glo "_law_tidy") rfl)
  d__law_tidy := c.def_ 20 (d := d__law_tidy) rfl
  g__law_circle := He.glo_ok X G (c.fact 57 (f := .glo "_law_circle") rfl)
  d__law_circle := c.def_ 21 (d := d__law_circle) rfl
  g__law_told := He.glo_ok X G (c.fact 58 (f := .glo "_law_told") rfl)
  d__law_told := c.def_ 22 (d := d__law_told) rfl
  g__law_mirror := He.glo_ok X G (c.fact 59 (f := .glo "_law_mirror") rfl)
  d__law_mirror := c.def_ 23 (d := d__law_mirror) rfl
  g__law_root := He.glo_ok X G (c.fact 60 (f := .glo "_law_root") rfl)
  d__law_root := c.def_ 24 (d := d__law_root) rfl
  g__law_comes := He.glo_ok X G (c.fact 61 (f := .glo "_law_comes") rfl)
  d__law_comes := c.def_ 25 (d := d__law_comes) rfl
  g_law := He.glo_ok X G (c.fact 62 (f := .glo "law") rfl)
  d_law := c.def_ 26 (d := d_law) rfl
variable {P : Program} {w : World} {base : Heap} {k : Nat}
theorem at_divisor (T : Tx (gOf K) mg) (d : Ds K mg) (Fk : Fns (gOf K) P w mg base k) : FnAt (gOf K) P w mg base (k + 1) (callE LW Pr (k + 1)) "divisor" 0 := by
  obtain ⟨fd, F⟩ := d.d_divisor
  exact ⟨_, fd, ["one", "other"], d.g_divisor, F.kp, F.bindsN fun _ _ _ _ _ _ us hl => match us, hl with | [_, _], _ => rfl, fn_ok F sc_divisor rfl rfl rfl fun cdv A outer s H Ex b hr => dv_divisor T Fk hr⟩
theorem az_divisor (d : Ds K mg) : FnAt (gOf K) P w mg base 0 (callE LW Pr 0) "divisor" 0 := by
  obtain ⟨fd, F⟩ := d.d_divisor
  exact ⟨_, fd, ["one", "other"], d.g_divisor, F.kp, F.bindsN fun _ _ _ _ _ _ us hl => match us, hl with | [_, _], _ => rfl, fn_zero⟩
theorem at_least (T : Tx (gOf K) mg) (d : Ds K mg) (Fk : Fns (gOf K) P w mg base k) : FnAt (gOf K) P w mg base (k + 1) (callE LW Pr (k + 1)) "least" 1 := by
  obtain ⟨fd, F⟩ := d.d_least
  exact ⟨_, fd, ["top", "under"], d.g_least, F.kp, F.bindsN fun _ _ _ _ _ _ us hl => match us, hl with | [_, _], _ => rfl, fn_ok F sc_least rfl rfl rfl fun cdv A outer s H Ex b hr => dv_least T Fk hr⟩
theorem az_least (d : Ds K mg) : FnAt (gOf K) P w mg base 0 (callE LW Pr 0) "least" 1 := by
  obtain ⟨fd, F⟩ := d.d_least
  exact ⟨_, fd, ["top", "under"], d.g_least, F.kp, F.bindsN fun _ _ _ _ _ _ us hl => match us, hl with | [_, _], _ => rfl, fn_zero⟩
theorem at_root_of (T : Tx (gOf K) mg) (d : Ds K mg) (Fk : Fns (gOf K) P w mg base k) : FnAt (gOf K) P w mg base (k + 1) (callE LW Pr (k + 1)) "root_of" 2 := by
  obtain ⟨fd, F⟩ := d.d_root_of
  exact ⟨_, fd, ["number"], d.g_root_of, F.kp, F.bindsN fun _ _ _ _ _ _ us hl => match us, hl with | [_], _ => rfl, fn_ok F sc_root_of rfl rfl rfl fun cdv A outer s H Ex b hr => dv_root_of T Fk hr⟩
theorem az_root_of (d : Ds K mg) : FnAt (gOf K) P w mg base 0 (callE LW Pr 0) "root_of" 2 := by
  obtain ⟨fd, F⟩ := d.d_root_of
  exact ⟨_, fd, ["number"], d.g_root_of, F.kp, F.bindsN fun _ _ _ _ _ _ us hl => match us, hl with | [_], _ => rfl, fn_zero⟩
theorem at_tidy (T : Tx (gOf K) mg) (d : Ds K mg) (Fk : Fns (gOf K) P w mg base k) : FnAt (gOf K) P w mg base (k + 1) (callE LW Pr (k + 1)) "tidy" 3 := by
  obtain ⟨fd, F⟩ := d.d_tidy
  exact ⟨_, fd, ["some"], d.g_tidy, F.kp, F.bindsN fun _ _ _ _ _ _ us hl => match us, hl with | [_], _ => rfl, fn_ok F sc_tidy rfl rfl rfl fun cdv A outer s H Ex b hr => dv_tidy T Fk hr⟩
theorem az_tidy (d : Ds K mg) : FnAt (gOf K) P w mg base 0 (callE LW Pr 0) "tidy" 3 := by
  obtain ⟨fd, F⟩ := d.d_tidy
  exact ⟨_, fd, ["some"], d.g_tidy, F.kp, F.bindsN fun _ _ _ _ _ _ us hl => match us, hl with | [_], _ => rfl, fn_zero⟩
theorem at_product (T : Tx (gOf K) mg) (d : Ds K mg) (Fk : Fns (gOf K) P w mg base k) : FnAt (gOf K) P w mg base (k + 1) (callE LW Pr (k + 1)) "product" 4 := by
  obtain ⟨fd, F⟩ := d.d_product
  exact ⟨_, fd, ["one", "other"], d.g_product, F.kp, F.bindsN fun _ _ _ _ _ _ us hl => match us, hl with | [_, _], _ => rfl, fn_ok F sc_product rfl rfl rfl fun cdv A outer s H Ex b hr => dv_product T Fk hr⟩
theorem az_product (d : Ds K mg) : FnAt (gOf K) P w mg base 0 (callE LW Pr 0) "product" 4 := by
  obtain ⟨fd, F⟩ := d.d_product
  exact ⟨_, fd, ["one", "other"], d.g_product, F.kp, F.bindsN fun _ _ _ _ _ _ us hl => match us, hl with | [_, _], _ => rfl, fn_zero⟩
theorem at_look_circle (T : Tx (gOf K) mg) (d : Ds K mg) (Fk : Fns (gOf K) P w mg base k) : FnAt (gOf K) P w mg base (k + 1) (callE LW Pr (k + 1)) "look_circle" 5 := by
  obtain ⟨fd, F⟩ := d.d_look_circle
  exact ⟨_, fd, ["circle"], d.g_look_circle, F.kp, F.bindsN fun _ _ _ _ _ _ us hl => match us, hl with | [_], _ => rfl, fn_ok F sc_look_circle rfl rfl rfl fun cdv A outer s H Ex b hr => dv_look_circle T Fk hr⟩
theorem az_look_circle (d : Ds K mg) : FnAt (gOf K) P w mg base 0 (callE LW Pr 0) "look_circle" 5 := by
  obtain ⟨fd, F⟩ := d.d_look_circle
  exact ⟨_, fd, ["circle"], d.g_look_circle, F.kp, F.bindsN fun _ _ _ _ _ _ us hl => match us, hl with | [_], _ => rfl, fn_zero⟩
theorem at_mirror (T : Tx (gOf K) mg) (d : Ds K mg) (Fk : Fns (gOf K) P w mg base k) : FnAt (gOf K) P w mg base (k + 1) (callE LW Pr (k + 1)) "mirror" 6 := by
  obtain ⟨fd, F⟩ := d.d_mirror
  exact ⟨_, fd, ["some", "glass"], d.g_mirror, F.kp, F.bindsN fun _ _ _ _ _ _ us hl => match us, hl with | [_, _], _ => rfl, fn_ok F sc_mirror rfl rfl rfl fun cdv A outer s H Ex b hr => dv_mirror T Fk hr⟩
theorem az_mirror (d : Ds K mg) : FnAt (gOf K) P w mg base 0 (callE LW Pr 0) "mirror" 6 := by
  obtain ⟨fd, F⟩ := d.d_mirror
  exact ⟨_, fd, ["some", "glass"], d.g_mirror, F.kp, F.bindsN fun _ _ _ _ _ _ us hl => match us, hl with | [_, _], _ => rfl, fn_zero⟩
theorem at_mirrored (T : Tx (gOf K) mg) (d : Ds K mg) (Fk : Fns (gOf K) P w mg base k) : FnAt (gOf K) P w mg base (k + 1) (callE LW Pr (k + 1)) "mirrored" 7 := by
  obtain ⟨fd, F⟩ := d.d_mirrored
  exact ⟨_, fd, ["circle", "glass"], d.g_mirrored, F.kp, F.bindsN fun _ _ _ _ _ _ us hl => match us, hl with | [_, _], _ => rfl, fn_ok F sc_mirrored rfl rfl rfl fun cdv A outer s H Ex b hr => dv_mirrored T Fk hr⟩
theorem az_mirrored (d : Ds K mg) : FnAt (gOf K) P w mg base 0 (callE LW Pr 0) "mirrored" 7 := by
  obtain ⟨fd, F⟩ := d.d_mirrored
  exact ⟨_, fd, ["circle", "glass"], d.g_mirrored, F.kp, F.bindsN fun _ _ _ _ _ _ us hl => match us, hl with | [_, _], _ => rfl, fn_zero⟩
theorem at_meeting (T : Tx (gOf K) mg) (d : Ds K mg) (Fk : Fns (gOf K) P w mg base k) : FnAt (gOf K) P w mg base (k + 1) (callE LW Pr (k + 1)) "meeting" 8 := by
  obtain ⟨fd, F⟩ := d.d_meeting
  exact ⟨_, fd, ["one", "other"], d.g_meeting, F.kp, F.bindsN fun _ _ _ _ _ _ us hl => match us, hl with | [_, _], _ => rfl, fn_ok F sc_meeting rfl rfl rfl fun cdv A outer s H Ex b hr => dv_meeting T Fk hr⟩
theorem az_meeting (d : Ds K mg) : FnAt (gOf K) P w mg base 0 (callE LW Pr 0) "meeting" 8 := by
  obtain ⟨fd, F⟩ := d.d_meeting
  exact ⟨_, fd, ["one", "other"], d.g_meeting, F.kp, F.bindsN fun _ _ _ _ _ _ us hl => match us, hl with | [_, _], _ => rfl, fn_zero⟩
theorem at_slant (T : Tx (gOf K) mg) (d : Ds K mg) (Fk : Fns (gOf K) P w mg base k) : FnAt (gOf K) P w mg base (k + 1) (callE LW Pr (k + 1)) "slant" 9 := by
  obtain ⟨fd, F⟩ := d.d_slant
  exact ⟨_, fd, ["one", "other"], d.g_slant, F.kp, F.bindsN fun _ _ _ _ _ _ us hl => match us, hl with | [_, _], _ => rfl, fn_ok F sc_slant rfl rfl rfl fun cdv A outer s H Ex b hr => dv_slant T Fk hr⟩
theorem az_slant (d : Ds K mg) : FnAt (gOf K) P w mg base 0 (callE LW Pr 0) "slant" 9 := by
  obtain ⟨fd, F⟩ := d.d_slant
  exact ⟨_, fd, ["one", "other"], d.g_slant, F.kp, F.bindsN fun _ _ _ _ _ _ us hl => match us, hl with | [_, _], _ => rfl, fn_zero⟩
theorem at_is_right (T : Tx (gOf K) mg) (d : Ds K mg) (Fk : Fns (gOf K) P w mg base k) : FnAt (gOf K) P w mg base (k + 1) (callE LW Pr (k + 1)) "is_right" 10 := by
  obtain ⟨fd, F⟩ := d.d_is_right
  exact ⟨_, fd, ["one", "other"], d.g_is_right, F.kp, F.bindsN fun _ _ _ _ _ _ us hl => match us, hl with | [_, _], _ => rfl, fn_ok F sc_is_right rfl rfl rfl fun cdv A outer s H Ex b hr => dv_is_right T Fk hr⟩
theorem az_is_right (d : Ds K mg) : FnAt (gOf K) P w mg base 0 (callE LW Pr 0) "is_right" 10 := by
  obtain ⟨fd, F⟩ := d.d_is_right
  exact ⟨_, fd, ["one", "other"], d.g_is_right, F.kp, F.bindsN fun _ _ _ _ _ _ us hl => match us, hl with | [_, _], _ => rfl, fn_zero⟩
theorem at_exchanging (T : Tx (gOf K) mg) (d : Ds K mg) (Fk : Fns (gOf K) P w mg base k) : FnAt (gOf K) P w mg base (k + 1) (callE LW Pr (k + 1)) "exchanging" 11 := by
  obtain ⟨fd, F⟩ := d.d_exchanging
  exact ⟨_, fd, ["one", "other"], d.g_exchanging, F.kp, F.bindsN fun _ _ _ _ _ _ us hl => match us, hl with | [_, _], _ => rfl, fn_ok F sc_exchanging rfl rfl rfl fun cdv A outer s H Ex b hr => dv_exchanging T Fk hr⟩
theorem az_exchanging (d : Ds K mg) : FnAt (gOf K) P w mg base 0 (callE LW Pr 0) "exchanging" 11 := by
  obtain ⟨fd, F⟩ := d.d_exchanging
  exact ⟨_, fd, ["one", "other"], d.g_exchanging, F.kp, F.bindsN fun _ _ _ _ _ _ us hl => match us, hl with | [_, _], _ => rfl, fn_zero⟩
theorem at_turned (T : Tx (gOf K) mg) (d : Ds K mg) (Fk : Fns (gOf K) P w mg base k) : FnAt (gOf K) P w mg base (k + 1) (callE LW Pr (k + 1)) "turned" 12 := by
  obtain ⟨fd, F⟩ := d.d_turned
  exact ⟨_, fd, ["circle", "glasses"], d.g_turned, F.kp, F.bindsN fun _ _ _ _ _ _ us hl => match us, hl with | [_, _], _ => rfl, fn_ok F sc_turned rfl rfl rfl fun cdv A outer s H Ex b hr => dv_turned T Fk hr⟩
theorem az_turned (d : Ds K mg) : FnAt (gOf K) P w mg base 0 (callE LW Pr 0) "turned" 12 := by
  obtain ⟨fd, F⟩ := d.d_turned
  exact ⟨_, fd, ["circle", "glasses"], d.g_turned, F.kp, F.bindsN fun _ _ _ _ _ _ us hl => match us, hl with | [_, _], _ => rfl, fn_zero⟩
theorem at_comes_back (T : Tx (gOf K) mg) (d : Ds K mg) (Fk : Fns (gOf K) P w mg base k) : FnAt (gOf K) P w mg base (k + 1) (callE LW Pr (k + 1)) "comes_back" 13 := by
  obtain ⟨fd, F⟩ := d.d_comes_back
  exact ⟨_, fd, ["circle", "one", "other", "most"], d.g_comes_back, F.kp, F.bindsN fun _ _ _ _ _ _ us hl => match us, hl with | [_, _, _, _], _ => rfl, fn_ok F sc_comes_back rfl rfl rfl fun cdv A outer s H Ex b hr => dv_comes_back T Fk hr⟩
theorem az_comes_back (d : Ds K mg) : FnAt (gOf K) P w mg base 0 (callE LW Pr 0) "comes_back" 13 := by
  obtain ⟨fd, F⟩ := d.d_comes_back
  exact ⟨_, fd, ["circle", "one", "other", "most"], d.g_comes_back, F.kp, F.bindsN fun _ _ _ _ _ _ us hl => match us, hl with | [_, _, _, _], _ => rfl, fn_zero⟩
theorem at__law_cell (T : Tx (gOf K) mg) (d : Ds K mg) (Fk : Fns (gOf K) P w mg base k) : FnAt (gOf K) P w mg base (k + 1) (callE LW Pr (k + 1)) "_law_cell" 14 := by
  obtain ⟨fd, F⟩ := d.d__law_cell
  exact ⟨_, fd, ["script", "k"], d.g__law_cell, F.kp, F.bindsN fun _ _ _ _ _ _ us hl => match us, hl with | [_, _], _ => rfl, fn_ok F sc__law_cell rfl rfl rfl fun cdv A outer s H Ex b hr => dv__law_cell T Fk hr⟩
theorem az__law_cell (d : Ds K mg) : FnAt (gOf K) P w mg base 0 (callE LW Pr 0) "_law_cell" 14 := by
  obtain ⟨fd, F⟩ := d.d__law_cell
  exact ⟨_, fd, ["script", "k"], d.g__law_cell, F.kp, F.bindsN fun _ _ _ _ _ _ us hl => match us, hl with | [_, _], _ => rfl, fn_zero⟩
theorem at__law_mix (T : Tx (gOf K) mg) (d : Ds K mg) (Fk : Fns (gOf K) P w mg base k) : FnAt (gOf K) P w mg base (k + 1) (callE LW Pr (k + 1)) "_law_mix" 15 := by
  obtain ⟨fd, F⟩ := d.d__law_mix
  exact ⟨_, fd, ["script", "k"], d.g__law_mix, F.kp, F.bindsN fun _ _ _ _ _ _ us hl => match us, hl with | [_, _], _ => rfl, fn_ok F sc__law_mix rfl rfl rfl fun cdv A outer s H Ex b hr => dv__law_mix T Fk hr⟩
theorem az__law_mix (d : Ds K mg) : FnAt (gOf K) P w mg base 0 (callE LW Pr 0) "_law_mix" 15 := by
  obtain ⟨fd, F⟩ := d.d__law_mix
  exact ⟨_, fd, ["script", "k"], d.g__law_mix, F.kp, F.bindsN fun _ _ _ _ _ _ us hl => match us, hl with | [_, _], _ => rfl, fn_zero⟩
theorem at__law_draw (T : Tx (gOf K) mg) (d : Ds K mg) (Fk : Fns (gOf K) P w mg base k) : FnAt (gOf K) P w mg base (k + 1) (callE LW Pr (k + 1)) "_law_draw" 16 := by
  obtain ⟨fd, F⟩ := d.d__law_draw
  exact ⟨_, fd, ["script", "town", "many"], d.g__law_draw, F.kp, F.bindsN fun _ _ _ _ _ _ us hl => match us, hl with | [_, _, _], _ => rfl, fn_ok F sc__law_draw rfl rfl rfl fun cdv A outer s H Ex b hr => dv__law_draw T Fk hr⟩
theorem az__law_draw (d : Ds K mg) : FnAt (gOf K) P w mg base 0 (callE LW Pr 0) "_law_draw" 16 := by
  obtain ⟨fd, F⟩ := d.d__law_draw
  exact ⟨_, fd, ["script", "town", "many"], d.g__law_draw, F.kp, F.bindsN fun _ _ _ _ _ _ us hl => match us, hl with | [_, _, _], _ => rfl, fn_zero⟩
theorem at__law_pick (T : Tx (gOf K) mg) (d : Ds K mg) (Fk : Fns (gOf K) P w mg base k) : FnAt (gOf K) P w mg base (k + 1) (callE LW Pr (k + 1)) "_law_pick" 17 := by
  obtain ⟨fd, F⟩ := d.d__law_pick
  exact ⟨_, fd, ["script", "town", "some"], d.g__law_pick, F.kp, F.bindsN fun _ _ _ _ _ _ us hl => match us, hl with | [_, _, _], _ => rfl, fn_ok F sc__law_pick rfl rfl rfl fun cdv A outer s H Ex b hr => dv__law_pick T Fk hr⟩
theorem az__law_pick (d : Ds K mg) : FnAt (gOf K) P w mg base 0 (callE LW Pr 0) "_law_pick" 17 := by
  obtain ⟨fd, F⟩ := d.d__law_pick
  exact ⟨_, fd, ["script", "town", "some"], d.g__law_pick, F.kp, F.bindsN fun _ _ _ _ _ _ us hl => match us, hl with | [_, _, _], _ => rfl, fn_zero⟩
theorem at__law_refusal (T : Tx (gOf K) mg) (d : Ds K mg) (Fk : Fns (gOf K) P w mg base k) : FnAt (gOf K) P w mg base (k + 1) (callE LW Pr (k + 1)) "_law_refusal" 18 := by
  obtain ⟨fd, F⟩ := d.d__law_refusal
  exact ⟨_, fd, ["caught"], d.g__law_refusal, F.kp, F.bindsN fun _ _ _ _ _ _ us hl => match us, hl with | [_], _ => rfl, fn_ok F sc__law_refusal rfl rfl rfl fun cdv A outer s H Ex b hr => dv__law_refusal T Fk hr⟩
theorem az__law_refusal (d : Ds K mg) : FnAt (gOf K) P w mg base 0 (callE LW Pr 0) "_law_refusal" 18 := by
  obtain ⟨fd, F⟩ := d.d__law_refusal
  exact ⟨_, fd, ["caught"], d.g__law_refusal, F.kp, F.bindsN fun _ _ _ _ _ _ us hl => match us, hl with | [_], _ => rfl, fn_zero⟩
theorem at__law_product (T : Tx (gOf K) mg) (d : Ds K mg) (Fk : Fns (gOf K) P w mg base k) : FnAt (gOf K) P w mg base (k + 1) (callE LW Pr (k + 1)) "_law_product" 19 := by
  obtain ⟨fd, F⟩ := d.d__law_product
  exact ⟨_, fd, ["one", "other"], d.g__law_product, F.kp, F.bindsN fun _ _ _ _ _ _ us hl => match us, hl with | [_, _], _ => rfl, fn_ok F sc__law_product rfl rfl rfl fun cdv A outer s H Ex b hr => dv__law_product T Fk hr⟩
theorem az__law_product (d : Ds K mg) : FnAt (gOf K) P w mg base 0 (callE LW Pr 0) "_law_product" 19 := by
  obtain ⟨fd, F⟩ := d.d__law_product
  exact ⟨_, fd, ["one", "other"], d.g__law_product, F.kp, F.bindsN fun _ _ _ _ _ _ us hl => match us, hl with | [_, _], _ => rfl, fn_zero⟩
theorem at__law_tidy (T : Tx (gOf K) mg) (d : Ds K mg) (Fk : Fns (gOf K) P w mg base k) : FnAt (gOf K) P w mg base (k + 1) (callE LW Pr (k + 1)) "_law_tidy" 20 := by
  obtain ⟨fd, F⟩ := d.d__law_tidy
  exact ⟨_, fd, ["some"], d.g__law_tidy, F.kp, F.bindsN fun _ _ _ _ _ _ us hl => match us, hl with | [_], _ => rfl, fn_ok F sc__law_tidy rfl rfl rfl fun cdv A outer s H Ex b hr => dv__law_tidy T Fk hr⟩
theorem az__law_tidy (d : Ds K mg) : FnAt (gOf K) P w mg base 0 (callE LW Pr 0) "_law_tidy" 20 := by
  obtain ⟨fd, F⟩ := d.d__law_tidy
  exact ⟨_, fd, ["some"], d.g__law_tidy, F.kp, F.bindsN fun _ _ _ _ _ _ us hl => match us, hl with | [_], _ => rfl, fn_zero⟩
theorem at__law_circle (T : Tx (gOf K) mg) (d : Ds K mg) (Fk : Fns (gOf K) P w mg base k) : FnAt (gOf K) P w mg base (k + 1) (callE LW Pr (k + 1)) "_law_circle" 21 := by
  obtain ⟨fd, F⟩ := d.d__law_circle
  exact ⟨_, fd, ["script", "town"], d.g__law_circle, F.kp, F.bindsN fun _ _ _ _ _ _ us hl => match us, hl with | [_, _], _ => rfl, fn_ok F sc__law_circle rfl rfl rfl fun cdv A outer s H Ex b hr => dv__law_circle T Fk hr⟩
theorem az__law_circle (d : Ds K mg) : FnAt (gOf K) P w mg base 0 (callE LW Pr 0) "_law_circle" 21 := by
  obtain ⟨fd, F⟩ := d.d__law_circle
  exact ⟨_, fd, ["script", "town"], d.g__law_circle, F.kp, F.bindsN fun _ _ _ _ _ _ us hl => match us, hl with | [_, _], _ => rfl, fn_zero⟩
theorem at__law_told (T : Tx (gOf K) mg) (d : Ds K mg) (Fk : Fns (gOf K) P w mg base k) : FnAt (gOf K) P w mg base (k + 1) (callE LW Pr (k + 1)) "_law_told" 22 := by
  obtain ⟨fd, F⟩ := d.d__law_told
  exact ⟨_, fd, ["kind", "one", "other", "third", "most"], d.g__law_told, F.kp, F.bindsN fun _ _ _ _ _ _ us hl => match us, hl with | [_, _, _, _, _], _ => rfl, fn_ok F sc__law_told rfl rfl rfl fun cdv A outer s H Ex b hr => dv__law_told T Fk hr⟩
theorem az__law_told (d : Ds K mg) : FnAt (gOf K) P w mg base 0 (callE LW Pr 0) "_law_told" 22 := by
  obtain ⟨fd, F⟩ := d.d__law_told
  exact ⟨_, fd, ["kind", "one", "other", "third", "most"], d.g__law_told, F.kp, F.bindsN fun _ _ _ _ _ _ us hl => match us, hl with | [_, _, _, _, _], _ => rfl, fn_zero⟩
theorem at__law_mirror (T : Tx (gOf K) mg) (d : Ds K mg) (Fk : Fns (gOf K) P w mg base k) : FnAt (gOf K) P w mg base (k + 1) (callE LW Pr (k + 1)) "_law_mirror" 23 := by
  obtain ⟨fd, F⟩ := d.d__law_mirror
  exact ⟨_, fd, ["some", "glass"], d.g__law_mirror, F.kp, F.bindsN fun _ _ _ _ _ _ us hl => match us, hl with | [_, _], _ => rfl, fn_ok F sc__law_mirror rfl rfl rfl fun cdv A outer s H Ex b hr => dv__law_mirror T Fk hr⟩
theorem az__law_mirror (d : Ds K mg) : FnAt (gOf K) P w mg base 0 (callE LW Pr 0) "_law_mirror" 23 := by
  obtain ⟨fd, F⟩ := d.d__law_mirror
  exact ⟨_, fd, ["some", "glass"], d.g__law_mirror, F.kp, F.bindsN fun _ _ _ _ _ _ us hl => match us, hl with | [_, _], _ => rfl, fn_zero⟩
theorem at__law_root (T : Tx (gOf K) mg) (d : Ds K mg) (Fk : Fns (gOf K) P w mg base k) : FnAt (gOf K) P w mg base (k + 1) (callE LW Pr (k + 1)) "_law_root" 24 := by
  obtain ⟨fd, F⟩ := d.d__law_root
  exact ⟨_, fd, ["number"], d.g__law_root, F.kp, F.bindsN fun _ _ _ _ _ _ us hl => match us, hl with | [_], _ => rfl, fn_ok F sc__law_root rfl rfl rfl fun cdv A outer s H Ex b hr => dv__law_root T Fk hr⟩
theorem az__law_root (d : Ds K mg) : FnAt (gOf K) P w mg base 0 (callE LW Pr 0) "_law_root" 24 := by
  obtain ⟨fd, F⟩ := d.d__law_root
  exact ⟨_, fd, ["number"], d.g__law_root, F.kp, F.bindsN fun _ _ _ _ _ _ us hl => match us, hl with | [_], _ => rfl, fn_zero⟩
theorem at__law_comes (T : Tx (gOf K) mg) (d : Ds K mg) (Fk : Fns (gOf K) P w mg base k) : FnAt (gOf K) P w mg base (k + 1) (callE LW Pr (k + 1)) "_law_comes" 25 := by
  obtain ⟨fd, F⟩ := d.d__law_comes
  exact ⟨_, fd, ["script", "town", "one", "glass"], d.g__law_comes, F.kp, F.bindsN fun _ _ _ _ _ _ us hl => match us, hl with | [_, _, _, _], _ => rfl, fn_ok F sc__law_comes rfl rfl rfl fun cdv A outer s H Ex b hr => dv__law_comes T Fk hr⟩
theorem az__law_comes (d : Ds K mg) : FnAt (gOf K) P w mg base 0 (callE LW Pr 0) "_law_comes" 25 := by
  obtain ⟨fd, F⟩ := d.d__law_comes
  exact ⟨_, fd, ["script", "town", "one", "glass"], d.g__law_comes, F.kp, F.bindsN fun _ _ _ _ _ _ us hl => match us, hl with | [_, _, _, _], _ => rfl, fn_zero⟩
theorem at_law (T : Tx (gOf K) mg) (d : Ds K mg) (Fk : Fns (gOf K) P w mg base k) : FnAt (gOf K) P w mg base (k + 1) (callE LW Pr (k + 1)) "law" 26 := by
  obtain ⟨fd, F⟩ := d.d_law
  exact ⟨_, fd, ["script"], d.g_law, F.kp, F.bindsN fun _ _ _ _ _ _ us hl => match us, hl with | [_], _ => rfl, fn_ok F sc_law rfl rfl rfl fun cdv A outer s H Ex b hr => dv_law T Fk hr⟩
theorem az_law (d : Ds K mg) : FnAt (gOf K) P w mg base 0 (callE LW Pr 0) "law" 26 := by
  obtain ⟨fd, F⟩ := d.d_law
  exact ⟨_, fd, ["script"], d.g_law, F.kp, F.bindsN fun _ _ _ _ _ _ us hl => match us, hl with | [_], _ => rfl, fn_zero⟩
theorem fns (T : Tx (gOf K) mg) (d : Ds K mg) : ∀ k, Fns (gOf K) P w mg base k
  | 0 => ⟨az_divisor d, az_least d, az_root_of d, az_tidy d, az_product d, az_look_circle d, az_mirror d, az_mirrored d, az_meeting d, az_slant d, az_is_right d, az_exchanging d, az_turned d, az_comes_back d, az__law_cell d, az__law_mix d, az__law_draw d, az__law_pick d, az__law_refusal d, az__law_product d, az__law_tidy d, az__law_circle d, az__law_told d, az__law_mirror d, az__law_root d, az__law_comes d, az_law d⟩
  | k + 1 => ⟨at_divisor T d (fns T d k), at_least T d (fns T d k), at_root_of T d (fns T d k), at_tidy T d (fns T d k), at_product T d (fns T d k), at_look_circle T d (fns T d k), at_mirror T d (fns T d k), at_mirrored T d (fns T d k), at_meeting T d (fns T d k), at_slant T d (fns T d k), at_is_right T d (fns T d k), at_exchanging T d (fns T d k), at_turned T d (fns T d k), at_comes_back T d (fns T d k), at__law_cell T d (fns T d k), at__law_mix T d (fns T d k), at__law_draw T d (fns T d k), at__law_pick T d (fns T d k), at__law_refusal T d (fns T d k), at__law_product T d (fns T d k), at__law_tidy T d (fns T d k), at__law_circle T d (fns T d k), at__law_told T d (fns T d k), at__law_mirror T d (fns T d k), at__law_root T d (fns T d k), at__law_comes T d (fns T d k), at_law T d (fns T d k)⟩
end
theorem done (hv : ∀ ns : List Int, ns.length ≤ 63 → ∃ S', callE LW Pr 20 26 [.d (.scr ns)] [] = some (.ok (.bl true), S')) : PySem.Challenge.rw_circlemirrors_k11_whole_exchanging.Holds := by
  w_on; o_law
  refine HandSHeadRun.head_any (r := PySem.W.OpenLaw.row PySem.Challenge.rw_circlemirrors_k11_whole_exchanging) (q := PySem.W.view (PySem.W.OpenLaw.row PySem.Challenge.rw_circlemirrors_k11_whole_exchanging).prog [41]) (H := hk) (ob := ob) (M := 6000) (loose := names) (d := HandSHeadRun.topDef (PySem.W.OpenLaw.row PySem.Challenge.rw_circlemirrors_k11_whole_exchanging).prog 41) (kwd := []) ob_eq
    (by kernel_rfl) (fun s => by kernel_rfl) run (by kernel_rfl) (by kernel_rfl) (by kernel_rfl) (by rfl) (by first | assumption | decide +kernel) (by decide +kernel) ⟨rfl, rfl, rfl, rfl, rfl, by decide +kernel⟩ ?hw ?hc
  case hw => w_witness2
  case hc =>
    refine walkW (l := PySem.Challenge.rw_circlemirrors_k11_whole_exchanging) (n := 63) (k := 20) (x := "script") rfl (by decide) (by kernel_rfl) ⟨rfl, by decide, by decide⟩ ?F
    intro w mg fv h Y G hmg0
    obtain ⟨K, KX, c, hc⟩ := Y
    have hmg : mg ("law" : PySem.Str) = some (.ref fv) := by
      have e : (HandSHeadRun.topDef (PySem.W.OpenLaw.row PySem.Challenge.rw_circlemirrors_k11_whole_exchanging).prog 41).name = ("law" : PySem.Str) := by kernel_rfl
      rw [← e]
      exact hmg0
    have T := tx KX G c hc
    have dd := ds KX G c
    obtain ⟨fd, F⟩ := dd.d_law
    cases hmg.symm.trans dd.g_law
    have bb := FunD.bindsA (ps := ["script"]) F fun _ _ _ _ _ _ us hl => match us, hl with | [_], _ => rfl
    refine ⟨K, fd, spF (gOf K) (callE LW Pr 20) 26, KX, fun s v => bb s [v] rfl, fun H a ns hl hS => ?_, fun base => fn_ok (g := gOf K) F sc_law rfl rfl rfl fun cdv A outer s H Ex b hr => dv_law T (fns T dd 19) hr⟩
    obtain ⟨S', e⟩ := hv ns hl
    exact law_sp hS e
end Lq

namespace Lq
open PySem PySem.Spec PyProof.Rows L2 Cm

theorem e_rz {S : Sto} {fr : Fr} {k : Nat} : ends (List.length S) (some (.rz k, fr, S)) = some (.rz k, S) := ends_rz rfl
theorem e_rz1 {S : Sto} {fr : Fr} {k : Nat} {v : Cl} : ends (List.length S) (some (.rz k, fr, S ++ [v])) = some (.rz k, S) := by simp [ends]
theorem e_ok {S : Sto} {fr : Fr} {x : D} : ends (List.length S) (some (.ret x, fr, S)) = some (.ok x, S) := ends_ret rfl
theorem e_nx {S : Sto} {fr : Fr} : ends (List.length S) (some (.nx, fr, S)) = some (.ok .non, S) := ends_nx rfl
theorem isc_e {k : Nat} : iscD (.exc k) .non = some false := rfl
theorem ln0 {L : Lw} : bltD L .len [.lst []] = some (.int 0) := rfl
theorem ln1 {L : Lw} {x : D} : bltD L .len [.lst [x]] = some (.int 1) := rfl
theorem ln2 {L : Lw} {x y : D} : bltD L .len [.lst [x, y]] = some (.int 2) := rfl
theorem ln3 {L : Lw} {x y z : D} : bltD L .len [.lst [x, y, z]] = some (.int 3) := rfl
theorem ln4 {L : Lw} {x y z w : D} : bltD L .len [.lst [x, y, z, w]] = some (.int 4) := rfl
theorem lt2 {L : Lw} {x y : D} : bltD L .len [.tup [x, y]] = some (.int 2) := rfl
theorem lt4 {L : Lw} {x y z w : D} : bltD L .len [.tup [x, y, z, w]] = some (.int 4) := rfl
theorem bt_nil_t {fr : Fr} : bindT .nil (.tup []) fr = some fr := rfl
theorem bt_nil_l {fr : Fr} : bindT .nil (.lst []) fr = some fr := rfl
theorem bt_cons_t {a b : Tg} {y : D} {ys : List D} {fr : Fr} : bindT (.cons a b) (.tup (y :: ys)) fr = (bindT a y fr).bind (bindT b (.tup ys)) := rfl
theorem bt_cons_l {a b : Tg} {y : D} {ys : List D} {fr : Fr} : bindT (.cons a b) (.lst (y :: ys)) fr = (bindT a y fr).bind (bindT b (.lst ys)) := rfl
theorem nbL4 {x y z w : D} : Nat.ble (List.length [x, y, z, w]) 100000 = true := rfl
theorem nbL3 {x y z : D} : Nat.ble (List.length [x, y, z]) 100000 = true := rfl
theorem nbL2 {x y : D} : Nat.ble (List.length [x, y]) 100000 = true := rfl
theorem Bd.four : Bd 3 4 := by unfold Bd; decide
theorem inB30 {a : Int} (h : inB a = true) : Bd 30 a := by
  unfold inB at h
  rw [Bool.and_eq_true, decide_eq_true_eq, decide_eq_true_eq] at h
  have z : a.natAbs < 2 ^ 30 := by omega
  exact z
variable {n : Nat} {S : Sto} {x y z w : D}
theorem u_divisor {n : Nat} {S : Sto} {s0 s1 : Sl} : callE LW Pr (n + 1) 0 [s0, s1] S = ends (List.length S) (evT LW (callE LW Pr n) (List.length S) i_divisor [s0, s1] S) := (call_0 (p := 2) (q := 2) rfl rfl)
theorem u_least {n : Nat} {S : Sto} {s0 s1 : Sl} : callE LW Pr (n + 1) 1 [s0, s1] S = ends (List.length S) (evT LW (callE LW Pr n) (List.length S) i_least [s0, s1, .un] S) := (call_0 (p := 2) (q := 3) rfl rfl)
theorem u_root_of {n : Nat} {S : Sto} {s0 : Sl} : callE LW Pr (n + 1) 2 [s0] S = ends (List.length S) (evT LW (callE LW Pr n) (List.length S) i_root_of [s0, .un, .un, .un] S) := (call_0 (p := 1) (q := 4) rfl rfl)
theorem u_tidy {n : Nat} {S : Sto} {s0 : Sl} : callE LW Pr (n + 1) 3 [s0] S = ends (List.length S) (evT LW (callE LW Pr n) (List.length S) i_tidy [s0, .un, .un, .un] S) := (call_0 (p := 1) (q := 4) rfl rfl)
theorem u_product {n : Nat} {S : Sto} {s0 s1 : Sl} : callE LW Pr (n + 1) 4 [s0, s1] S = ends (List.length S) (evT LW (callE LW Pr n) (List.length S) i_product [s0, s1] S) := (call_0 (p := 2) (q := 2) rfl rfl)
theorem u_look_circle {n : Nat} {S : Sto} {s0 : Sl} : callE LW Pr (n + 1) 5 [s0] S = ends (List.length S) (evT LW (callE LW Pr n) (List.length S) i_look_circle [s0, .un] S) := (call_0 (p := 1) (q := 2) rfl rfl)
theorem u_mirror {n : Nat} {S : Sto} {s0 s1 : Sl} : callE LW Pr (n + 1) 6 [s0, s1] S = ends (List.length S) (evT LW (callE LW Pr n) (List.length S) i_mirror [s0, s1, .un, .un, .un] S) := (call_0 (p := 2) (q := 5) rfl rfl)
theorem u_mirrored {n : Nat} {S : Sto} {s0 s1 : Sl} : callE LW Pr (n + 1) 7 [s0, s1] S = ends (List.length S) (evT LW (callE LW Pr n) (List.length S) i_mirrored [s0, s1] S) := (call_0 (p := 2) (q := 2) rfl rfl)
theorem u_meeting {n : Nat} {S : Sto} {s0 s1 : Sl} : callE LW Pr (n + 1) 8 [s0, s1] S = ends (List.length S) (evT LW (callE LW Pr n) (List.length S) i_meeting [s0, s1, .un, .un] S) := (call_0 (p := 2) (q := 4) rfl rfl)
theorem u_slant {n : Nat} {S : Sto} {s0 s1 : Sl} : callE LW Pr (n + 1) 9 [s0, s1] S = ends (List.length S) (evT LW (callE LW Pr n) (List.length S) i_slant [s0, s1, .un] S) := (call_0 (p := 2) (q := 3) rfl rfl)
theorem u_is_right {n : Nat} {S : Sto} {s0 s1 : Sl} : callE LW Pr (n + 1) 10 [s0, s1] S = ends (List.length S) (evT LW (callE LW Pr n) (List.length S) i_is_right [s0, s1] S) := (call_0 (p := 2) (q := 2) rfl rfl)
theorem u_turned {n : Nat} {S : Sto} {s0 s1 : Sl} : callE LW Pr (n + 1) 12 [s0, s1] S = ends (List.length S) (evT LW (callE LW Pr n) (List.length S) i_turned [s0, s1, .un] S) := (call_0 (p := 2) (q := 3) rfl rfl)
theorem u_comes_back {n : Nat} {S : Sto} {s0 s1 s2 s3 : Sl} : callE LW Pr (n + 1) 13 [s0, s1, s2, s3] S = ends (List.length S) (evT LW (callE LW Pr n) (List.length S) i_comes_back [s0, s1, s2, s3, .un, .un] S) := (call_0 (p := 4) (q := 6) rfl rfl)
theorem u__law_product {n : Nat} {S : Sto} {s0 s1 : Sl} : callE LW Pr (n + 1) 19 [s0, s1] S = ends (List.length S) (evT LW (callE LW Pr n) (List.length S) i__law_product [s0, s1, .un] S) := (call_0 (p := 2) (q := 3) rfl rfl)
theorem u__law_tidy {n : Nat} {S : Sto} {s0 : Sl} : callE LW Pr (n + 1) 20 [s0] S = ends (List.length S) (evT LW (callE LW Pr n) (List.length S) i__law_tidy [s0, .un, .un, .un, .un] S) := (call_0 (p := 1) (q := 5) rfl rfl)
theorem u__law_told {n : Nat} {S : Sto} {s0 s1 s2 s3 s4 : Sl} : callE LW Pr (n + 1) 22 [s0, s1, s2, s3, s4] S = ends (List.length S) (evT LW (callE LW Pr n) (List.length S) i__law_told [s0, s1, s2, s3, s4, .un, .un, .un] S) := (call_0 (p := 5) (q := 8) rfl rfl)
theorem u__law_mirror {n : Nat} {S : Sto} {s0 s1 : Sl} : callE LW Pr (n + 1) 23 [s0, s1] S = ends (List.length S) (evT LW (callE LW Pr n) (List.length S) i__law_mirror [s0, s1, .un, .un, .un] S) := (call_0 (p := 2) (q := 5) rfl rfl)
theorem u__law_root {n : Nat} {S : Sto} {s0 : Sl} : callE LW Pr (n + 1) 24 [s0] S = ends (List.length S) (evT LW (callE LW Pr n) (List.length S) i__law_root [s0, .un, .un, .un] S) := (call_0 (p := 1) (q := 4) rfl rfl)
theorem u__law_comes {n : Nat} {S : Sto} {s0 s1 s2 s3 : Sl} : callE LW Pr (n + 1) 25 [s0, s1, s2, s3] S = ends (List.length S) (evT LW (callE LW Pr n) (List.length S) i__law_comes [s0, s1, s2, s3, .un, .un, .un, .un, .un, .un, .un] S) := (call_0 (p := 4) (q := 11) rfl rfl)
theorem bs : Bs Pr 0 3 4 5 := ⟨rfl, rfl, rfl, rfl⟩
theorem ls : Ls Pr 14 15 16 19 20 21 := ⟨rfl, rfl, rfl, rfl, rfl, rfl⟩
theorem v_dv {t u : Int} (hu : Bd 8000 u) : callE LW Pr (n + 1) 0 [.d (.int t), .d (.int u)] S = some (.ok (.int (Int.gcd t u : Nat)), S) := ev_divisor bs.hdv hu
theorem fdiv_neg2 {g t : Int} (hg : g ≠ 0) (h : g ∣ t) : (0 - t).fdiv g = t.fdiv (0 - g) := by
  rw [← neg_fdiv hg h]
  obtain ⟨k, rfl⟩ := h
  rw [Int.mul_fdiv_cancel_left _ hg]
  have e : 0 - g * k = g * (0 - k) := by grind
  rw [e, Int.mul_fdiv_cancel_left _ hg]
theorem v_least {t u : Int} (hu : u ≠ 0) (bt : Bd 3900 t) (bu : Bd 3900 u) : callE LW Pr (n + 2) 1 [.d (.int t), .d (.int u)] S = some (.ok (frV t u), S) := by
  have g0 : Int.gcd t u ≠ 0 := fun z => hu (Int.gcd_eq_zero_iff.mp z).2
  have gb : smB ((Int.gcd t u : Nat) : Int) = true := (bt.gcd bu).sm (by decide)
  have gz : (((Int.gcd t u : Nat) : Int) == 0) = false := beq_eq_false_iff_ne.mpr (by omega)
  by_cases q : u < 0
  · have e := v_dv (n := n) (S := S) (t := 0 - t) (u := 0 - u) (bu.neg.mono (by decide))
    have eg : Int.gcd (0 - t) (0 - u) = Int.gcd t u := by rw [Int.zero_sub, Int.zero_sub, Int.gcd_neg, Int.neg_gcd]
    rw [eg] at e
    have f1 : frN t u = (0 - t).fdiv ((Int.gcd t u : Nat) : Int) := by
      unfold frN frk
      rw [if_neg (by omega), fdiv_neg2 (by omega) (Int.gcd_dvd_left _ _)]
    have f2 : frD t u = (0 - u).fdiv ((Int.gcd t u : Nat) : Int) := by
      unfold frD frk
      rw [if_neg (by omega), fdiv_neg2 (by omega) (Int.gcd_dvd_right _ _)]
    unfold frV
    rw [f1, f2]
    simp only [u_least, i_least, q, e, b_fdiv gb gz, e_var, kV_d, kV_r, kVr_l, kVr_f, e_arg, kA_d, kA_r, e_lit, pk_d, pk_r, kPr_l, kPr_f, outD_s, outB_s, e_bin, kBin1_v, kBin1_r, kBin2_v, kBin2_r, kBin3_s, e_cmp, kCmp1_v, kCmp1_r, kCmp2_v, kCmp2_r, kCmp3_s, e_idx, kIdx1_v, kIdx1_r, kIdx2_v, kIdx2_r, kIdx3_s, e_neg, kNeg1_v, kNeg1_r, e_tru, kTru1_v, kTru1_r, kNeg2_s, kTru2_s, e_isc, kIsc1_v, kIsc1_r, kIsc2_s, e_and, kAnd_t, kAnd_f, kAnd_r, e_or, kOr_t, kOr_f, kOr_r, e_not, kNot_t, kNot_f, kNot_r, e_ifx, kIfx_t, kIfx_f, kIfx_r, e_chn, kCh1_v, kCh1_r, kCh2_v, kCh2_r, kChP_s, kChB_t, kChB_f, kCh3_v, kCh3_r, kCh4_s, e_nil, e_cons, kCs1_v, kCs1_r, kCs2_v, kCs2_r, e_tup, kTu1_v, kTu1_r, kTu2_0, kTu2_1, kTu2_2, kTu2_3, kTu2_4, kTu2_5, kTu2_6, kTu2_7, kTu2_8, e_lst, kLi1_v, kLi1_r, kLi2_0, kLi2_1, kLi2_2, kLi2_3, kLi2_4, kLi2_5, kLi2_6, kLi2_7, kLi2_8, datL, Option.map_some, e_call, kCa1_v, kCa1_r, kCa2_o, kCa2_r, e_blt, kBl1_v, kBl1_r, kBl2_s, pl_nil, pl_cons, kPL_s, e_rng1, kR1_v, e_rng2, kR2_v, kR2_r, kR2b_v, e_comp, kC1_v, kC1_r, kC2_s, cl_nil, cl_cons, kCL_y, kCL_n, s_step, kS1_s, kS2_t, kS2_f, kS3_v, t_seq, kSq_n, kSq_t, kSq_r, kSq_b, t_nop, t_asg, kAs1_v, kAs1_r, kAs2_s, t_par, kPa1_v, kPa2_v, par_d, t_ret, kRt_v, kRt_r, t_exp, kEx_v, kEx_r, t_ite, kIt_t, kIt_f, kIt_r, t_rse, t_brk, t_try, kTr_r, kTr_n, kTr_t, t_for, kF1_v, kF1_r, kF2_s, fl_nil, fl_cons, kFL_n, kFL_t, kFL_r, kFL_b, s_for, kSF_s, kAp3_l, List.getElem?_cons_zero, List.getElem?_cons_succ, List.set_cons_zero, List.set_cons_succ, List.length_cons, List.length_nil, List.cons_append, List.nil_append, b_add, b_sub, b_mul, b_fdiv, b_mod, c_lt, c_le, c_gt, c_ge, c_eq, c_ne, c_eqi, c_nei, l_tup, l_list, l_abs, sq_t, sq_l, i_t1_0, i_l1_0, i_t2_0, i_l2_0, i_t2_1, i_l2_1, i_t3_0, i_l3_0, i_t3_1, i_l3_1, i_t3_2, i_l3_2, i_t4_0, i_l4_0, i_t4_1, i_l4_1, i_t4_2, i_l4_2, i_t4_3, i_l4_3, i_t5_0, i_l5_0, i_t5_1, i_l5_1, i_t5_2, i_l5_2, i_t5_3, i_l5_3, i_t5_4, i_l5_4, i_t6_0, i_l6_0, i_t6_1, i_l6_1, i_t6_2, i_l6_2, i_t6_3, i_l6_3, i_t6_4, i_l6_4, i_t6_5, i_l6_5, bt_nm, wp_nil, wp_cons, List.replicate, Nat.reduceSub, List.append_nil, Int.reduceLT, Int.reduceLE, Int.reduceBEq, Int.reduceSub, decide_true, decide_false, Bool.not_true, Bool.not_false, Bool.not_not, e_rz, e_rz1, e_ok, e_nx, isc_e, ln0, ln1, ln2, ln3, ln4, lt2, lt4, if_true, if_false, reduceIte, Bool.false_eq_true, bt_nil_t, bt_cons_t, bt_nil_l, bt_cons_l, Option.bind]
  · have e := v_dv (n := n) (S := S) (t := t) (u := u) (bu.mono (by decide))
    have f1 : frN t u = t.fdiv ((Int.gcd t u : Nat) : Int) := by unfold frN frk; rw [if_pos (by omega)]
    have f2 : frD t u = u.fdiv ((Int.gcd t u : Nat) : Int) := by unfold frD frk; rw [if_pos (by omega)]
    unfold frV
    rw [f1, f2]
    simp only [u_least, i_least, q, e, b_fdiv gb gz, e_var, kV_d, kV_r, kVr_l, kVr_f, e_arg, kA_d, kA_r, e_lit, pk_d, pk_r, kPr_l, kPr_f, outD_s, outB_s, e_bin, kBin1_v, kBin1_r, kBin2_v, kBin2_r, kBin3_s, e_cmp, kCmp1_v, kCmp1_r, kCmp2_v, kCmp2_r, kCmp3_s, e_idx, kIdx1_v, kIdx1_r, kIdx2_v, kIdx2_r, kIdx3_s, e_neg, kNeg1_v, kNeg1_r, e_tru, kTru1_v, kTru1_r, kNeg2_s, kTru2_s, e_isc, kIsc1_v, kIsc1_r, kIsc2_s, e_and, kAnd_t, kAnd_f, kAnd_r, e_or, kOr_t, kOr_f, kOr_r, e_not, kNot_t, kNot_f, kNot_r, e_ifx, kIfx_t, kIfx_f, kIfx_r, e_chn, kCh1_v, kCh1_r, kCh2_v, kCh2_r, kChP_s, kChB_t, kChB_f, kCh3_v, kCh3_r, kCh4_s, e_nil, e_cons, kCs1_v, kCs1_r, kCs2_v, kCs2_r, e_tup, kTu1_v, kTu1_r, kTu2_0, kTu2_1, kTu2_2, kTu2_3, kTu2_4, kTu2_5, kTu2_6, kTu2_7, kTu2_8, e_lst, kLi1_v, kLi1_r, kLi2_0, kLi2_1, kLi2_2, kLi2_3, kLi2_4, kLi2_5, kLi2_6, kLi2_7, kLi2_8, datL, Option.map_some, e_call, kCa1_v, kCa1_r, kCa2_o, kCa2_r, e_blt, kBl1_v, kBl1_r, kBl2_s, pl_nil, pl_cons, kPL_s, e_rng1, kR1_v, e_rng2, kR2_v, kR2_r, kR2b_v, e_comp, kC1_v, kC1_r, kC2_s, cl_nil, cl_cons, kCL_y, kCL_n, s_step, kS1_s, kS2_t, kS2_f, kS3_v, t_seq, kSq_n, kSq_t, kSq_r, kSq_b, t_nop, t_asg, kAs1_v, kAs1_r, kAs2_s, t_par, kPa1_v, kPa2_v, par_d, t_ret, kRt_v, kRt_r, t_exp, kEx_v, kEx_r, t_ite, kIt_t, kIt_f, kIt_r, t_rse, t_brk, t_try, kTr_r, kTr_n, kTr_t, t_for, kF1_v, kF1_r, kF2_s, fl_nil, fl_cons, kFL_n, kFL_t, kFL_r, kFL_b, s_for, kSF_s, kAp3_l, List.getElem?_cons_zero, List.getElem?_cons_succ, List.set_cons_zero, List.set_cons_succ, List.length_cons, List.length_nil, List.cons_append, List.nil_append, b_add, b_sub, b_mul, b_fdiv, b_mod, c_lt, c_le, c_gt, c_ge, c_eq, c_ne, c_eqi, c_nei, l_tup, l_list, l_abs, sq_t, sq_l, i_t1_0, i_l1_0, i_t2_0, i_l2_0, i_t2_1, i_l2_1, i_t3_0, i_l3_0, i_t3_1, i_l3_1, i_t3_2, i_l3_2, i_t4_0, i_l4_0, i_t4_1, i_l4_1, i_t4_2, i_l4_2, i_t4_3, i_l4_3, i_t5_0, i_l5_0, i_t5_1, i_l5_1, i_t5_2, i_l5_2, i_t5_3, i_l5_3, i_t5_4, i_l5_4, i_t6_0, i_l6_0, i_t6_1, i_l6_1, i_t6_2, i_l6_2, i_t6_3, i_l6_3, i_t6_4, i_l6_4, i_t6_5, i_l6_5, bt_nm, wp_nil, wp_cons, List.replicate, Nat.reduceSub, List.append_nil, Int.reduceLT, Int.reduceLE, Int.reduceBEq, Int.reduceSub, decide_true, decide_false, Bool.not_true, Bool.not_false, Bool.not_not, e_rz, e_rz1, e_ok, e_nx, isc_e, ln0, ln1, ln2, ln3, ln4, lt2, lt4, if_true, if_false, reduceIte, Bool.false_eq_true, bt_nil_t, bt_cons_t, bt_nil_l, bt_cons_l, Option.bind]
structure FrOk (p q : Int) : Prop where
  b1 : inB p = true
  b2 : inB q = true
  pos : 0 < q
  g1 : Int.gcd p q = 1
def okQ (p : Q) : Prop := OkC p.a p.b p.c p.d
theorem v_lc {p : Q} (h : okQ p) : callE LW Pr (n + 3) 5 [.d p.t] S = some (.ok .non, S) := lc_ok bs h
theorem okQ.bd {p : Q} (h : okQ p) : Bd4 30 p.a p.b p.c p.d := ⟨inB30 h.b1, inB30 h.b2, inB30 h.b3, inB30 h.b4⟩
theorem v_pr {x y : D} {p q : Q} (hx : Is4 x p.a p.b p.c p.d) (hy : Is4 y q.a q.b q.c q.d) (bp : Bd4 1000 p.a p.b p.c p.d) (bq : Bd4 1000 q.a q.b q.c q.d) : callE LW Pr (n + 1) 4 [.d x, .d y] S = some (.ok (.int (p.pr q)), S) := ev_product bs.hpr hx hy bp bq
theorem is4Q {p : Q} : Is4 p.t p.a p.b p.c p.d := is4T
theorem v_mirror {x : D} {p g : Q} (hx : Is4 x p.a p.b p.c p.d) (bp : Bd4 300 p.a p.b p.c p.d) (bg : Bd4 30 g.a g.b g.c g.d) : callE LW Pr (n + 2) 6 [.d x, .d g.t] S = some (.ok (.lst [.int (p.mir g).a, .int (p.mir g).b, .int (p.mir g).c, .int (p.mir g).d]), S) := by
  have e1 := v_pr (n := n) (S := S) (is4Q (p := g)) (is4Q (p := g)) (bg.mono (by decide)) (bg.mono (by decide))
  have e2 := v_pr (n := n) (S := S) hx (is4Q (p := g)) (bp.mono (by decide)) (bg.mono (by decide))
  obtain ⟨p1, p2, p3, p4⟩ := bp
  obtain ⟨g1, g2, g3, g4⟩ := bg
  have o1 : Bd 250 (g.pr g) := Bd.mono (Bd.sub (Bd.sub (Bd.add (Bd.mul g2 g2) (Bd.mul g3 g3)) (Bd.mul (Bd.mul Bd.two g1) g4)) (Bd.mul (Bd.mul Bd.two g4) g1)) (by decide)
  have o2 : Bd 1400 (p.pr g) := Bd.mono (Bd.sub (Bd.sub (Bd.add (Bd.mul p2 g2) (Bd.mul p3 g3)) (Bd.mul (Bd.mul Bd.two p1) g4)) (Bd.mul (Bd.mul Bd.two p4) g1)) (by decide)
  have r4 : rngL 0 4 = [.int 0, .int 1, .int 2, .int 3] := by kernel_rfl
  have m4 : mid 4 = true := by decide
  have nb : Nat.ble (0 + 1 + 1 + 1 + 1) 100000 = true := by decide
  have j0 : itemD g.t 0 = some (.int g.a) := rfl
  have j1 : itemD g.t 1 = some (.int g.b) := rfl
  have j2 : itemD g.t 2 = some (.int g.c) := rfl
  have j3 : itemD g.t 3 = some (.int g.d) := rfl
  simp (disch := first | assumption | exact nbL4 | exact nbL2 | exact nbL3 | (apply Bd.sm; (· (repeat' first | assumption | exact Bd.two | exact Bd.one | exact Bd.four | exact Bd.zero | apply Bd.mul | apply Bd.add | apply Bd.sub)); (· decide))) only [u_mirror, i_mirror, e1, e2, kR1_v m4, r4, hx.i0, hx.i1, hx.i2, hx.i3, j0, j1, j2, j3, e_var, kV_d, kV_r, kVr_l, kVr_f, e_arg, kA_d, kA_r, e_lit, pk_d, pk_r, kPr_l, kPr_f, outD_s, outB_s, e_bin, kBin1_v, kBin1_r, kBin2_v, kBin2_r, kBin3_s, e_cmp, kCmp1_v, kCmp1_r, kCmp2_v, kCmp2_r, kCmp3_s, e_idx, kIdx1_v, kIdx1_r, kIdx2_v, kIdx2_r, kIdx3_s, e_neg, kNeg1_v, kNeg1_r, e_tru, kTru1_v, kTru1_r, kNeg2_s, kTru2_s, e_isc, kIsc1_v, kIsc1_r, kIsc2_s, e_and, kAnd_t, kAnd_f, kAnd_r, e_or, kOr_t, kOr_f, kOr_r, e_not, kNot_t, kNot_f, kNot_r, e_ifx, kIfx_t, kIfx_f, kIfx_r, e_chn, kCh1_v, kCh1_r, kCh2_v, kCh2_r, kChP_s, kChB_t, kChB_f, kCh3_v, kCh3_r, kCh4_s, e_nil, e_cons, kCs1_v, kCs1_r, kCs2_v, kCs2_r, e_tup, kTu1_v, kTu1_r, kTu2_0, kTu2_1, kTu2_2, kTu2_3, kTu2_4, kTu2_5, kTu2_6, kTu2_7, kTu2_8, e_lst, kLi1_v, kLi1_r, kLi2_0, kLi2_1, kLi2_2, kLi2_3, kLi2_4, kLi2_5, kLi2_6, kLi2_7, kLi2_8, datL, Option.map_some, e_call, kCa1_v, kCa1_r, kCa2_o, kCa2_r, e_blt, kBl1_v, kBl1_r, kBl2_s, pl_nil, pl_cons, kPL_s, e_rng1, kR1_v, e_rng2, kR2_v, kR2_r, kR2b_v, e_comp, kC1_v, kC1_r, kC2_s, cl_nil, cl_cons, kCL_y, kCL_n, s_step, kS1_s, kS2_t, kS2_f, kS3_v, t_seq, kSq_n, kSq_t, kSq_r, kSq_b, t_nop, t_asg, kAs1_v, kAs1_r, kAs2_s, t_par, kPa1_v, kPa2_v, par_d, t_ret, kRt_v, kRt_r, t_exp, kEx_v, kEx_r, t_ite, kIt_t, kIt_f, kIt_r, t_rse, t_brk, t_try, kTr_r, kTr_n, kTr_t, t_for, kF1_v, kF1_r, kF2_s, fl_nil, fl_cons, kFL_n, kFL_t, kFL_r, kFL_b, s_for, kSF_s, kAp3_l, List.getElem?_cons_zero, List.getElem?_cons_succ, List.set_cons_zero, List.set_cons_succ, List.length_cons, List.length_nil, List.cons_append, List.nil_append, b_add, b_sub, b_mul, b_fdiv, b_mod, c_lt, c_le, c_gt, c_ge, c_eq, c_ne, c_eqi, c_nei, l_tup, l_list, l_abs, sq_t, sq_l, i_t1_0, i_l1_0, i_t2_0, i_l2_0, i_t2_1, i_l2_1, i_t3_0, i_l3_0, i_t3_1, i_l3_1, i_t3_2, i_l3_2, i_t4_0, i_l4_0, i_t4_1, i_l4_1, i_t4_2, i_l4_2, i_t4_3, i_l4_3, i_t5_0, i_l5_0, i_t5_1, i_l5_1, i_t5_2, i_l5_2, i_t5_3, i_l5_3, i_t5_4, i_l5_4, i_t6_0, i_l6_0, i_t6_1, i_l6_1, i_t6_2, i_l6_2, i_t6_3, i_l6_3, i_t6_4, i_l6_4, i_t6_5, i_l6_5, bt_nm, wp_nil, wp_cons, List.replicate, Nat.reduceSub, List.append_nil, Int.reduceLT, Int.reduceLE, Int.reduceBEq, Int.reduceSub, decide_true, decide_false, Bool.not_true, Bool.not_false, Bool.not_not, e_rz, e_rz1, e_ok, e_nx, isc_e, ln0, ln1, ln2, ln3, ln4, lt2, lt4, if_true, if_false, reduceIte, Bool.false_eq_true, bt_nil_t, bt_cons_t, bt_nil_l, bt_cons_l, Option.bind]
  rfl

theorem mir_pos {p g : Q} (hp : 0 < p.pr p) (hg : 0 < g.pr g) : 0 < (p.mir g).pr (p.mir g) := by
  rw [pr_mir]
  exact Int.mul_pos (Int.mul_pos hg hg) hp
theorem pr_bd {p q : Q} (hp : Bd4 30 p.a p.b p.c p.d) (hq : Bd4 30 q.a q.b q.c q.d) : Bd 250 (p.pr q) := Bd.mono (Bd.sub (Bd.sub (Bd.add (Bd.mul hp.b hq.b) (Bd.mul hp.c hq.c)) (Bd.mul (Bd.mul Bd.two hp.a) hq.d)) (Bd.mul (Bd.mul Bd.two hp.d) hq.a)) (by decide)
theorem mir_bd {p g : Q} (hp : Bd4 300 p.a p.b p.c p.d) (hg : Bd4 30 g.a g.b g.c g.d) : Bd4 2100 (p.mir g).a (p.mir g).b (p.mir g).c (p.mir g).d := by
  have o1 := pr_bd hg hg
  have o2 : Bd 1400 (p.pr g) := Bd.mono (Bd.sub (Bd.sub (Bd.add (Bd.mul hp.b hg.b) (Bd.mul hp.c hg.c)) (Bd.mul (Bd.mul Bd.two hp.a) hg.d)) (Bd.mul (Bd.mul Bd.two hp.d) hg.a)) (by decide)
  exact ⟨Bd.mono (Bd.sub (Bd.mul o1 hp.a) (Bd.mul (Bd.mul Bd.two o2) hg.a)) (by decide), Bd.mono (Bd.sub (Bd.mul o1 hp.b) (Bd.mul (Bd.mul Bd.two o2) hg.b)) (by decide), Bd.mono (Bd.sub (Bd.mul o1 hp.c) (Bd.mul (Bd.mul Bd.two o2) hg.c)) (by decide), Bd.mono (Bd.sub (Bd.mul o1 hp.d) (Bd.mul (Bd.mul Bd.two o2) hg.d)) (by decide)⟩
theorem v_mirrored {p g : Q} (hp : okQ p) (hg : okQ g) : callE LW Pr (n + 4) 7 [.d p.t, .d g.t] S = some (.ok (p.mir g).tid, S) := by
  have e1 := v_mirror (n := n + 1) (S := S) (is4Q (p := p)) (hp.bd.mono (by decide)) hg.bd
  have e2 : callE LW Pr (n + 3) 3 [.d (.lst [.int (p.mir g).a, .int (p.mir g).b, .int (p.mir g).c, .int (p.mir g).d])] S = some (.ok (p.mir g).tid, S) := ev_tidy (n := n + 1) bs.hdv bs.htd is4L ((mir_bd (hp.bd.mono (by decide)) hg.bd).mono (by decide)) (fst4_ne (mir_pos (p := p) (g := g) hp.pr hg.pr))
  simp only [u_mirrored, i_mirrored, v_lc hp, v_lc hg, e1, e2, e_var, kV_d, kV_r, kVr_l, kVr_f, e_arg, kA_d, kA_r, e_lit, pk_d, pk_r, kPr_l, kPr_f, outD_s, outB_s, e_bin, kBin1_v, kBin1_r, kBin2_v, kBin2_r, kBin3_s, e_cmp, kCmp1_v, kCmp1_r, kCmp2_v, kCmp2_r, kCmp3_s, e_idx, kIdx1_v, kIdx1_r, kIdx2_v, kIdx2_r, kIdx3_s, e_neg, kNeg1_v, kNeg1_r, e_tru, kTru1_v, kTru1_r, kNeg2_s, kTru2_s, e_isc, kIsc1_v, kIsc1_r, kIsc2_s, e_and, kAnd_t, kAnd_f, kAnd_r, e_or, kOr_t, kOr_f, kOr_r, e_not, kNot_t, kNot_f, kNot_r, e_ifx, kIfx_t, kIfx_f, kIfx_r, e_chn, kCh1_v, kCh1_r, kCh2_v, kCh2_r, kChP_s, kChB_t, kChB_f, kCh3_v, kCh3_r, kCh4_s, e_nil, e_cons, kCs1_v, kCs1_r, kCs2_v, kCs2_r, e_tup, kTu1_v, kTu1_r, kTu2_0, kTu2_1, kTu2_2, kTu2_3, kTu2_4, kTu2_5, kTu2_6, kTu2_7, kTu2_8, e_lst, kLi1_v, kLi1_r, kLi2_0, kLi2_1, kLi2_2, kLi2_3, kLi2_4, kLi2_5, kLi2_6, kLi2_7, kLi2_8, datL, Option.map_some, e_call, kCa1_v, kCa1_r, kCa2_o, kCa2_r, e_blt, kBl1_v, kBl1_r, kBl2_s, pl_nil, pl_cons, kPL_s, e_rng1, kR1_v, e_rng2, kR2_v, kR2_r, kR2b_v, e_comp, kC1_v, kC1_r, kC2_s, cl_nil, cl_cons, kCL_y, kCL_n, s_step, kS1_s, kS2_t, kS2_f, kS3_v, t_seq, kSq_n, kSq_t, kSq_r, kSq_b, t_nop, t_asg, kAs1_v, kAs1_r, kAs2_s, t_par, kPa1_v, kPa2_v, par_d, t_ret, kRt_v, kRt_r, t_exp, kEx_v, kEx_r, t_ite, kIt_t, kIt_f, kIt_r, t_rse, t_brk, t_try, kTr_r, kTr_n, kTr_t, t_for, kF1_v, kF1_r, kF2_s, fl_nil, fl_cons, kFL_n, kFL_t, kFL_r, kFL_b, s_for, kSF_s, kAp3_l, List.getElem?_cons_zero, List.getElem?_cons_succ, List.set_cons_zero, List.set_cons_succ, List.length_cons, List.length_nil, List.cons_append, List.nil_append, b_add, b_sub, b_mul, b_fdiv, b_mod, c_lt, c_le, c_gt, c_ge, c_eq, c_ne, c_eqi, c_nei, l_tup, l_list, l_abs, sq_t, sq_l, i_t1_0, i_l1_0, i_t2_0, i_l2_0, i_t2_1, i_l2_1, i_t3_0, i_l3_0, i_t3_1, i_l3_1, i_t3_2, i_l3_2, i_t4_0, i_l4_0, i_t4_1, i_l4_1, i_t4_2, i_l4_2, i_t4_3, i_l4_3, i_t5_0, i_l5_0, i_t5_1, i_l5_1, i_t5_2, i_l5_2, i_t5_3, i_l5_3, i_t5_4, i_l5_4, i_t6_0, i_l6_0, i_t6_1, i_l6_1, i_t6_2, i_l6_2, i_t6_3, i_l6_3, i_t6_4, i_l6_4, i_t6_5, i_l6_5, bt_nm, wp_nil, wp_cons, List.replicate, Nat.reduceSub, List.append_nil, Int.reduceLT, Int.reduceLE, Int.reduceBEq, Int.reduceSub, decide_true, decide_false, Bool.not_true, Bool.not_false, Bool.not_not, e_rz, e_rz1, e_ok, e_nx, isc_e, ln0, ln1, ln2, ln3, ln4, lt2, lt4, if_true, if_false, reduceIte, Bool.false_eq_true, bt_nil_t, bt_cons_t, bt_nil_l, bt_cons_l, Option.bind]
def meetV (p q : Q) : D := if deq p.t q.t = true then .str "same" else if p.pr q * p.pr q = p.pr p * q.pr q then .str "touch" else if p.pr q * p.pr q < p.pr p * q.pr q then .str "cross" else .str "apart"
theorem plnQ {p : Q} : pln 60 p.t = true := rfl
theorem v_meeting {p q : Q} (hp : okQ p) (hq : okQ q) : callE LW Pr (n + 4) 8 [.d p.t, .d q.t] S = some (.ok (meetV p q), S) := by
  have e1 := v_pr (n := n + 2) (S := S) (is4Q (p := p)) (is4Q (p := q)) (hp.bd.mono (by decide)) (hq.bd.mono (by decide))
  have e2 := v_pr (n := n + 2) (S := S) (is4Q (p := p)) (is4Q (p := p)) (hp.bd.mono (by decide)) (hp.bd.mono (by decide))
  have e3 := v_pr (n := n + 2) (S := S) (is4Q (p := q)) (is4Q (p := q)) (hq.bd.mono (by decide)) (hq.bd.mono (by decide))
  have o1 := pr_bd hp.bd hq.bd
  have o2 := pr_bd hp.bd hp.bd
  have o3 := pr_bd hq.bd hq.bd
  have lc1 := v_lc (n := n) (S := S) hp
  have lc2 := v_lc (n := n) (S := S) hq
  have ce := c_eq (plnQ (p := p)) (plnQ (p := q))
  unfold meetV
  by_cases h1 : deq p.t q.t = true
  · rw [if_pos h1]
    simp only [u_meeting, i_meeting, lc1, lc2, ce, h1, e_var, kV_d, kV_r, kVr_l, kVr_f, e_arg, kA_d, kA_r, e_lit, pk_d, pk_r, kPr_l, kPr_f, outD_s, outB_s, e_bin, kBin1_v, kBin1_r, kBin2_v, kBin2_r, kBin3_s, e_cmp, kCmp1_v, kCmp1_r, kCmp2_v, kCmp2_r, kCmp3_s, e_idx, kIdx1_v, kIdx1_r, kIdx2_v, kIdx2_r, kIdx3_s, e_neg, kNeg1_v, kNeg1_r, e_tru, kTru1_v, kTru1_r, kNeg2_s, kTru2_s, e_isc, kIsc1_v, kIsc1_r, kIsc2_s, e_and, kAnd_t, kAnd_f, kAnd_r, e_or, kOr_t, kOr_f, kOr_r, e_not, kNot_t, kNot_f, kNot_r, e_ifx, kIfx_t, kIfx_f, kIfx_r, e_chn, kCh1_v, kCh1_r, kCh2_v, kCh2_r, kChP_s, kChB_t, kChB_f, kCh3_v, kCh3_r, kCh4_s, e_nil, e_cons, kCs1_v, kCs1_r, kCs2_v, kCs2_r, e_tup, kTu1_v, kTu1_r, kTu2_0, kTu2_1, kTu2_2, kTu2_3, kTu2_4, kTu2_5, kTu2_6, kTu2_7, kTu2_8, e_lst, kLi1_v, kLi1_r, kLi2_0, kLi2_1, kLi2_2, kLi2_3, kLi2_4, kLi2_5, kLi2_6, kLi2_7, kLi2_8, datL, Option.map_some, e_call, kCa1_v, kCa1_r, kCa2_o, kCa2_r, e_blt, kBl1_v, kBl1_r, kBl2_s, pl_nil, pl_cons, kPL_s, e_rng1, kR1_v, e_rng2, kR2_v, kR2_r, kR2b_v, e_comp, kC1_v, kC1_r, kC2_s, cl_nil, cl_cons, kCL_y, kCL_n, s_step, kS1_s, kS2_t, kS2_f, kS3_v, t_seq, kSq_n, kSq_t, kSq_r, kSq_b, t_nop, t_asg, kAs1_v, kAs1_r, kAs2_s, t_par, kPa1_v, kPa2_v, par_d, t_ret, kRt_v, kRt_r, t_exp, kEx_v, kEx_r, t_ite, kIt_t, kIt_f, kIt_r, t_rse, t_brk, t_try, kTr_r, kTr_n, kTr_t, t_for, kF1_v, kF1_r, kF2_s, fl_nil, fl_cons, kFL_n, kFL_t, kFL_r, kFL_b, s_for, kSF_s, kAp3_l, List.getElem?_cons_zero, List.getElem?_cons_succ, List.set_cons_zero, List.set_cons_succ, List.length_cons, List.length_nil, List.cons_append, List.nil_append, b_add, b_sub, b_mul, b_fdiv, b_mod, c_lt, c_le, c_gt, c_ge, c_eq, c_ne, c_eqi, c_nei, l_tup, l_list, l_abs, sq_t, sq_l, i_t1_0, i_l1_0, i_t2_0, i_l2_0, i_t2_1, i_l2_1, i_t3_0, i_l3_0, i_t3_1, i_l3_1, i_t3_2, i_l3_2, i_t4_0, i_l4_0, i_t4_1, i_l4_1, i_t4_2, i_l4_2, i_t4_3, i_l4_3, i_t5_0, i_l5_0, i_t5_1, i_l5_1, i_t5_2, i_l5_2, i_t5_3, i_l5_3, i_t5_4, i_l5_4, i_t6_0, i_l6_0, i_t6_1, i_l6_1, i_t6_2, i_l6_2, i_t6_3, i_l6_3, i_t6_4, i_l6_4, i_t6_5, i_l6_5, bt_nm, wp_nil, wp_cons, List.replicate, Nat.reduceSub, List.append_nil, Int.reduceLT, Int.reduceLE, Int.reduceBEq, Int.reduceSub, decide_true, decide_false, Bool.not_true, Bool.not_false, Bool.not_not, e_rz, e_rz1, e_ok, e_nx, isc_e, ln0, ln1, ln2, ln3, ln4, lt2, lt4, if_true, if_false, reduceIte, Bool.false_eq_true, bt_nil_t, bt_cons_t, bt_nil_l, bt_cons_l, Option.bind]
  · have h1 : deq p.t q.t = false := by simpa using h1
    rw [if_neg (by rw [h1]; decide)]
    by_cases h2 : p.pr q * p.pr q = p.pr p * q.pr q
    · rw [if_pos h2]
      have h3 : (p.pr q * p.pr q == p.pr p * q.pr q) = true := beq_iff_eq.mpr h2
      simp (disch := first | assumption | exact nbL4 | exact nbL2 | exact nbL3 | (apply Bd.sm; (· (repeat' first | assumption | exact Bd.two | exact Bd.one | exact Bd.four | exact Bd.zero | apply Bd.mul | apply Bd.add | apply Bd.sub)); (· decide))) only [u_meeting, i_meeting, lc1, lc2, ce, h1, e1, e2, e3, h3, e_var, kV_d, kV_r, kVr_l, kVr_f, e_arg, kA_d, kA_r, e_lit, pk_d, pk_r, kPr_l, kPr_f, outD_s, outB_s, e_bin, kBin1_v, kBin1_r, kBin2_v, kBin2_r, kBin3_s, e_cmp, kCmp1_v, kCmp1_r, kCmp2_v, kCmp2_r, kCmp3_s, e_idx, kIdx1_v, kIdx1_r, kIdx2_v, kIdx2_r, kIdx3_s, e_neg, kNeg1_v, kNeg1_r, e_tru, kTru1_v, kTru1_r, kNeg2_s, kTru2_s, e_isc, kIsc1_v, kIsc1_r, kIsc2_s, e_and, kAnd_t, kAnd_f, kAnd_r, e_or, kOr_t, kOr_f, kOr_r, e_not, kNot_t, kNot_f, kNot_r, e_ifx, kIfx_t, kIfx_f, kIfx_r, e_chn, kCh1_v, kCh1_r, kCh2_v, kCh2_r, kChP_s, kChB_t, kChB_f, kCh3_v, kCh3_r, kCh4_s, e_nil, e_cons, kCs1_v, kCs1_r, kCs2_v, kCs2_r, e_tup, kTu1_v, kTu1_r, kTu2_0, kTu2_1, kTu2_2, kTu2_3, kTu2_4, kTu2_5, kTu2_6, kTu2_7, kTu2_8, e_lst, kLi1_v, kLi1_r, kLi2_0, kLi2_1, kLi2_2, kLi2_3, kLi2_4, kLi2_5, kLi2_6, kLi2_7, kLi2_8, datL, Option.map_some, e_call, kCa1_v, kCa1_r, kCa2_o, kCa2_r, e_blt, kBl1_v, kBl1_r, kBl2_s, pl_nil, pl_cons, kPL_s, e_rng1, kR1_v, e_rng2, kR2_v, kR2_r, kR2b_v, e_comp, kC1_v, kC1_r, kC2_s, cl_nil, cl_cons, kCL_y, kCL_n, s_step, kS1_s, kS2_t, kS2_f, kS3_v, t_seq, kSq_n, kSq_t, kSq_r, kSq_b, t_nop, t_asg, kAs1_v, kAs1_r, kAs2_s, t_par, kPa1_v, kPa2_v, par_d, t_ret, kRt_v, kRt_r, t_exp, kEx_v, kEx_r, t_ite, kIt_t, kIt_f, kIt_r, t_rse, t_brk, t_try, kTr_r, kTr_n, kTr_t, t_for, kF1_v, kF1_r, kF2_s, fl_nil, fl_cons, kFL_n, kFL_t, kFL_r, kFL_b, s_for, kSF_s, kAp3_l, List.getElem?_cons_zero, List.getElem?_cons_succ, List.set_cons_zero, List.set_cons_succ, List.length_cons, List.length_nil, List.cons_append, List.nil_append, b_add, b_sub, b_mul, b_fdiv, b_mod, c_lt, c_le, c_gt, c_ge, c_eq, c_ne, c_eqi, c_nei, l_tup, l_list, l_abs, sq_t, sq_l, i_t1_0, i_l1_0, i_t2_0, i_l2_0, i_t2_1, i_l2_1, i_t3_0, i_l3_0, i_t3_1, i_l3_1, i_t3_2, i_l3_2, i_t4_0, i_l4_0, i_t4_1, i_l4_1, i_t4_2, i_l4_2, i_t4_3, i_l4_3, i_t5_0, i_l5_0, i_t5_1, i_l5_1, i_t5_2, i_l5_2, i_t5_3, i_l5_3, i_t5_4, i_l5_4, i_t6_0, i_l6_0, i_t6_1, i_l6_1, i_t6_2, i_l6_2, i_t6_3, i_l6_3, i_t6_4, i_l6_4, i_t6_5, i_l6_5, bt_nm, wp_nil, wp_cons, List.replicate, Nat.reduceSub, List.append_nil, Int.reduceLT, Int.reduceLE, Int.reduceBEq, Int.reduceSub, decide_true, decide_false, Bool.not_true, Bool.not_false, Bool.not_not, e_rz, e_rz1, e_ok, e_nx, isc_e, ln0, ln1, ln2, ln3, ln4, lt2, lt4, if_true, if_false, reduceIte, Bool.false_eq_true, bt_nil_t, bt_cons_t, bt_nil_l, bt_cons_l, Option.bind]
    · rw [if_neg h2]
      have h3 : (p.pr q * p.pr q == p.pr p * q.pr q) = false := beq_eq_false_iff_ne.mpr h2
      by_cases h4 : p.pr q * p.pr q < p.pr p * q.pr q
      · rw [if_pos h4]
        have h5 : decide (p.pr q * p.pr q < p.pr p * q.pr q) = true := decide_eq_true h4
        simp (disch := first | assumption | exact nbL4 | exact nbL2 | exact nbL3 | (apply Bd.sm; (· (repeat' first | assumption | exact Bd.two | exact Bd.one | exact Bd.four | exact Bd.zero | apply Bd.mul | apply Bd.add | apply Bd.sub)); (· decide))) only [u_meeting, i_meeting, lc1, lc2, ce, h1, e1, e2, e3, h3, h5, e_var, kV_d, kV_r, kVr_l, kVr_f, e_arg, kA_d, kA_r, e_lit, pk_d, pk_r, kPr_l, kPr_f, outD_s, outB_s, e_bin, kBin1_v, kBin1_r, kBin2_v, kBin2_r, kBin3_s, e_cmp, kCmp1_v, kCmp1_r, kCmp2_v, kCmp2_r, kCmp3_s, e_idx, kIdx1_v, kIdx1_r, kIdx2_v, kIdx2_r, kIdx3_s, e_neg, kNeg1_v, kNeg1_r, e_tru, kTru1_v, kTru1_r, kNeg2_s, kTru2_s, e_isc, kIsc1_v, kIsc1_r, kIsc2_s, e_and, kAnd_t, kAnd_f, kAnd_r, e_or, kOr_t, kOr_f, kOr_r, e_not, kNot_t, kNot_f, kNot_r, e_ifx, kIfx_t, kIfx_f, kIfx_r, e_chn, kCh1_v, kCh1_r, kCh2_v, kCh2_r, kChP_s, kChB_t, kChB_f, kCh3_v, kCh3_r, kCh4_s, e_nil, e_cons, kCs1_v, kCs1_r, kCs2_v, kCs2_r, e_tup, kTu1_v, kTu1_r, kTu2_0, kTu2_1, kTu2_2, kTu2_3, kTu2_4, kTu2_5, kTu2_6, kTu2_7, kTu2_8, e_lst, kLi1_v, kLi1_r, kLi2_0, kLi2_1, kLi2_2, kLi2_3, kLi2_4, kLi2_5, kLi2_6, kLi2_7, kLi2_8, datL, Option.map_some, e_call, kCa1_v, kCa1_r, kCa2_o, kCa2_r, e_blt, kBl1_v, kBl1_r, kBl2_s, pl_nil, pl_cons, kPL_s, e_rng1, kR1_v, e_rng2, kR2_v, kR2_r, kR2b_v, e_comp, kC1_v, kC1_r, kC2_s, cl_nil, cl_cons, kCL_y, kCL_n, s_step, kS1_s, kS2_t, kS2_f, kS3_v, t_seq, kSq_n, kSq_t, kSq_r, kSq_b, t_nop, t_asg, kAs1_v, kAs1_r, kAs2_s, t_par, kPa1_v, kPa2_v, par_d, t_ret, kRt_v, kRt_r, t_exp, kEx_v, kEx_r, t_ite, kIt_t, kIt_f, kIt_r, t_rse, t_brk, t_try, kTr_r, kTr_n, kTr_t, t_for, kF1_v, kF1_r, kF2_s, fl_nil, fl_cons, kFL_n, kFL_t, kFL_r, kFL_b, s_for, kSF_s, kAp3_l, List.getElem?_cons_zero, List.getElem?_cons_succ, List.set_cons_zero, List.set_cons_succ, List.length_cons, List.length_nil, List.cons_append, List.nil_append, b_add, b_sub, b_mul, b_fdiv, b_mod, c_lt, c_le, c_gt, c_ge, c_eq, c_ne, c_eqi, c_nei, l_tup, l_list, l_abs, sq_t, sq_l, i_t1_0, i_l1_0, i_t2_0, i_l2_0, i_t2_1, i_l2_1, i_t3_0, i_l3_0, i_t3_1, i_l3_1, i_t3_2, i_l3_2, i_t4_0, i_l4_0, i_t4_1, i_l4_1, i_t4_2, i_l4_2, i_t4_3, i_l4_3, i_t5_0, i_l5_0, i_t5_1, i_l5_1, i_t5_2, i_l5_2, i_t5_3, i_l5_3, i_t5_4, i_l5_4, i_t6_0, i_l6_0, i_t6_1, i_l6_1, i_t6_2, i_l6_2, i_t6_3, i_l6_3, i_t6_4, i_l6_4, i_t6_5, i_l6_5, bt_nm, wp_nil, wp_cons, List.replicate, Nat.reduceSub, List.append_nil, Int.reduceLT, Int.reduceLE, Int.reduceBEq, Int.reduceSub, decide_true, decide_false, Bool.not_true, Bool.not_false, Bool.not_not, e_rz, e_rz1, e_ok, e_nx, isc_e, ln0, ln1, ln2, ln3, ln4, lt2, lt4, if_true, if_false, reduceIte, Bool.false_eq_true, bt_nil_t, bt_cons_t, bt_nil_l, bt_cons_l, Option.bind]
      · rw [if_neg h4]
        have h5 : decide (p.pr q * p.pr q < p.pr p * q.pr q) = false := decide_eq_false h4
        simp (disch := first | assumption | exact nbL4 | exact nbL2 | exact nbL3 | (apply Bd.sm; (· (repeat' first | assumption | exact Bd.two | exact Bd.one | exact Bd.four | exact Bd.zero | apply Bd.mul | apply Bd.add | apply Bd.sub)); (· decide))) only [u_meeting, i_meeting, lc1, lc2, ce, h1, e1, e2, e3, h3, h5, e_var, kV_d, kV_r, kVr_l, kVr_f, e_arg, kA_d, kA_r, e_lit, pk_d, pk_r, kPr_l, kPr_f, outD_s, outB_s, e_bin, kBin1_v, kBin1_r, kBin2_v, kBin2_r, kBin3_s, e_cmp, kCmp1_v, kCmp1_r, kCmp2_v, kCmp2_r, kCmp3_s, e_idx, kIdx1_v, kIdx1_r, kIdx2_v, kIdx2_r, kIdx3_s, e_neg, kNeg1_v, kNeg1_r, e_tru, kTru1_v, kTru1_r, kNeg2_s, kTru2_s, e_isc, kIsc1_v, kIsc1_r, kIsc2_s, e_and, kAnd_t, kAnd_f, kAnd_r, e_or, kOr_t, kOr_f, kOr_r, e_not, kNot_t, kNot_f, kNot_r, e_ifx, kIfx_t, kIfx_f, kIfx_r, e_chn, kCh1_v, kCh1_r, kCh2_v, kCh2_r, kChP_s, kChB_t, kChB_f, kCh3_v, kCh3_r, kCh4_s, e_nil, e_cons, kCs1_v, kCs1_r, kCs2_v, kCs2_r, e_tup, kTu1_v, kTu1_r, kTu2_0, kTu2_1, kTu2_2, kTu2_3, kTu2_4, kTu2_5, kTu2_6, kTu2_7, kTu2_8, e_lst, kLi1_v, kLi1_r, kLi2_0, kLi2_1, kLi2_2, kLi2_3, kLi2_4, kLi2_5, kLi2_6, kLi2_7, kLi2_8, datL, Option.map_some, e_call, kCa1_v, kCa1_r, kCa2_o, kCa2_r, e_blt, kBl1_v, kBl1_r, kBl2_s, pl_nil, pl_cons, kPL_s, e_rng1, kR1_v, e_rng2, kR2_v, kR2_r, kR2b_v, e_comp, kC1_v, kC1_r, kC2_s, cl_nil, cl_cons, kCL_y, kCL_n, s_step, kS1_s, kS2_t, kS2_f, kS3_v, t_seq, kSq_n, kSq_t, kSq_r, kSq_b, t_nop, t_asg, kAs1_v, kAs1_r, kAs2_s, t_par, kPa1_v, kPa2_v, par_d, t_ret, kRt_v, kRt_r, t_exp, kEx_v, kEx_r, t_ite, kIt_t, kIt_f, kIt_r, t_rse, t_brk, t_try, kTr_r, kTr_n, kTr_t, t_for, kF1_v, kF1_r, kF2_s, fl_nil, fl_cons, kFL_n, kFL_t, kFL_r, kFL_b, s_for, kSF_s, kAp3_l, List.getElem?_cons_zero, List.getElem?_cons_succ, List.set_cons_zero, List.set_cons_succ, List.length_cons, List.length_nil, List.cons_append, List.nil_append, b_add, b_sub, b_mul, b_fdiv, b_mod, c_lt, c_le, c_gt, c_ge, c_eq, c_ne, c_eqi, c_nei, l_tup, l_list, l_abs, sq_t, sq_l, i_t1_0, i_l1_0, i_t2_0, i_l2_0, i_t2_1, i_l2_1, i_t3_0, i_l3_0, i_t3_1, i_l3_1, i_t3_2, i_l3_2, i_t4_0, i_l4_0, i_t4_1, i_l4_1, i_t4_2, i_l4_2, i_t4_3, i_l4_3, i_t5_0, i_l5_0, i_t5_1, i_l5_1, i_t5_2, i_l5_2, i_t5_3, i_l5_3, i_t5_4, i_l5_4, i_t6_0, i_l6_0, i_t6_1, i_l6_1, i_t6_2, i_l6_2, i_t6_3, i_l6_3, i_t6_4, i_l6_4, i_t6_5, i_l6_5, bt_nm, wp_nil, wp_cons, List.replicate, Nat.reduceSub, List.append_nil, Int.reduceLT, Int.reduceLE, Int.reduceBEq, Int.reduceSub, decide_true, decide_false, Bool.not_true, Bool.not_false, Bool.not_not, e_rz, e_rz1, e_ok, e_nx, isc_e, ln0, ln1, ln2, ln3, ln4, lt2, lt4, if_true, if_false, reduceIte, Bool.false_eq_true, bt_nil_t, bt_cons_t, bt_nil_l, bt_cons_l, Option.bind]
def slV (p q : Q) : D := frV (p.pr q * p.pr q) (p.pr p * q.pr q)
theorem own_ne {p q : Q} (hp : 0 < p.pr p) (hq : 0 < q.pr q) : p.pr p * q.pr q ≠ 0 := by
  have := Int.mul_pos hp hq
  omega
theorem v_slant {p q : Q} (hp : okQ p) (hq : okQ q) : callE LW Pr (n + 4) 9 [.d p.t, .d q.t] S = some (.ok (slV p q), S) := by
  have e1 := v_pr (n := n + 2) (S := S) (is4Q (p := p)) (is4Q (p := q)) (hp.bd.mono (by decide)) (hq.bd.mono (by decide))
  have e2 := v_pr (n := n + 2) (S := S) (is4Q (p := p)) (is4Q (p := p)) (hp.bd.mono (by decide)) (hp.bd.mono (by decide))
  have e3 := v_pr (n := n + 2) (S := S) (is4Q (p := q)) (is4Q (p := q)) (hq.bd.mono (by decide)) (hq.bd.mono (by decide))
  have o1 := pr_bd hp.bd hq.bd
  have o2 := pr_bd hp.bd hp.bd
  have o3 := pr_bd hq.bd hq.bd
  have lc1 := v_lc (n := n) (S := S) hp
  have lc2 := v_lc (n := n) (S := S) hq
  have e4 : callE LW Pr (n + 3) 1 [.d (.int (p.pr q * p.pr q)), .d (.int (p.pr p * q.pr q))] S = some (.ok (slV p q), S) := v_least (n := n + 1) (own_ne hp.pr hq.pr) ((o1.mul o1).mono (by decide)) ((o2.mul o3).mono (by decide))
  simp (disch := first | assumption | exact nbL4 | exact nbL2 | exact nbL3 | (apply Bd.sm; (· (repeat' first | assumption | exact Bd.two | exact Bd.one | exact Bd.four | exact Bd.zero | apply Bd.mul | apply Bd.add | apply Bd.sub)); (· decide))) only [u_slant, i_slant, lc1, lc2, e1, e2, e3, e4, e_var, kV_d, kV_r, kVr_l, kVr_f, e_arg, kA_d, kA_r, e_lit, pk_d, pk_r, kPr_l, kPr_f, outD_s, outB_s, e_bin, kBin1_v, kBin1_r, kBin2_v, kBin2_r, kBin3_s, e_cmp, kCmp1_v, kCmp1_r, kCmp2_v, kCmp2_r, kCmp3_s, e_idx, kIdx1_v, kIdx1_r, kIdx2_v, kIdx2_r, kIdx3_s, e_neg, kNeg1_v, kNeg1_r, e_tru, kTru1_v, kTru1_r, kNeg2_s, kTru2_s, e_isc, kIsc1_v, kIsc1_r, kIsc2_s, e_and, kAnd_t, kAnd_f, kAnd_r, e_or, kOr_t, kOr_f, kOr_r, e_not, kNot_t, kNot_f, kNot_r, e_ifx, kIfx_t, kIfx_f, kIfx_r, e_chn, kCh1_v, kCh1_r, kCh2_v, kCh2_r, kChP_s, kChB_t, kChB_f, kCh3_v, kCh3_r, kCh4_s, e_nil, e_cons, kCs1_v, kCs1_r, kCs2_v, kCs2_r, e_tup, kTu1_v, kTu1_r, kTu2_0, kTu2_1, kTu2_2, kTu2_3, kTu2_4, kTu2_5, kTu2_6, kTu2_7, kTu2_8, e_lst, kLi1_v, kLi1_r, kLi2_0, kLi2_1, kLi2_2, kLi2_3, kLi2_4, kLi2_5, kLi2_6, kLi2_7, kLi2_8, datL, Option.map_some, e_call, kCa1_v, kCa1_r, kCa2_o, kCa2_r, e_blt, kBl1_v, kBl1_r, kBl2_s, pl_nil, pl_cons, kPL_s, e_rng1, kR1_v, e_rng2, kR2_v, kR2_r, kR2b_v, e_comp, kC1_v, kC1_r, kC2_s, cl_nil, cl_cons, kCL_y, kCL_n, s_step, kS1_s, kS2_t, kS2_f, kS3_v, t_seq, kSq_n, kSq_t, kSq_r, kSq_b, t_nop, t_asg, kAs1_v, kAs1_r, kAs2_s, t_par, kPa1_v, kPa2_v, par_d, t_ret, kRt_v, kRt_r, t_exp, kEx_v, kEx_r, t_ite, kIt_t, kIt_f, kIt_r, t_rse, t_brk, t_try, kTr_r, kTr_n, kTr_t, t_for, kF1_v, kF1_r, kF2_s, fl_nil, fl_cons, kFL_n, kFL_t, kFL_r, kFL_b, s_for, kSF_s, kAp3_l, List.getElem?_cons_zero, List.getElem?_cons_succ, List.set_cons_zero, List.set_cons_succ, List.length_cons, List.length_nil, List.cons_append, List.nil_append, b_add, b_sub, b_mul, b_fdiv, b_mod, c_lt, c_le, c_gt, c_ge, c_eq, c_ne, c_eqi, c_nei, l_tup, l_list, l_abs, sq_t, sq_l, i_t1_0, i_l1_0, i_t2_0, i_l2_0, i_t2_1, i_l2_1, i_t3_0, i_l3_0, i_t3_1, i_l3_1, i_t3_2, i_l3_2, i_t4_0, i_l4_0, i_t4_1, i_l4_1, i_t4_2, i_l4_2, i_t4_3, i_l4_3, i_t5_0, i_l5_0, i_t5_1, i_l5_1, i_t5_2, i_l5_2, i_t5_3, i_l5_3, i_t5_4, i_l5_4, i_t6_0, i_l6_0, i_t6_1, i_l6_1, i_t6_2, i_l6_2, i_t6_3, i_l6_3, i_t6_4, i_l6_4, i_t6_5, i_l6_5, bt_nm, wp_nil, wp_cons, List.replicate, Nat.reduceSub, List.append_nil, Int.reduceLT, Int.reduceLE, Int.reduceBEq, Int.reduceSub, decide_true, decide_false, Bool.not_true, Bool.not_false, Bool.not_not, e_rz, e_rz1, e_ok, e_nx, isc_e, ln0, ln1, ln2, ln3, ln4, lt2, lt4, if_true, if_false, reduceIte, Bool.false_eq_true, bt_nil_t, bt_cons_t, bt_nil_l, bt_cons_l, Option.bind]

def is01 (x : D) : Bool := deq x (.tup [.int 0, .int 1])
theorem plnF {t u : Int} : pln 60 (frV t u) = true := rfl
theorem pln01 : pln 60 (.tup [.int 0, .int 1]) = true := rfl
theorem v_is_right {p q : Q} (hp : okQ p) (hq : okQ q) : callE LW Pr (n + 5) 10 [.d p.t, .d q.t] S = some (.ok (.bl (is01 (slV p q))), S) := by
  have e1 := v_slant (n := n) (S := S) hp hq
  have ce := c_eq (plnF (t := p.pr q * p.pr q) (u := p.pr p * q.pr q)) pln01
  simp only [u_is_right, i_is_right, e1, slV, ce, e_var, kV_d, kV_r, kVr_l, kVr_f, e_arg, kA_d, kA_r, e_lit, pk_d, pk_r, kPr_l, kPr_f, outD_s, outB_s, e_bin, kBin1_v, kBin1_r, kBin2_v, kBin2_r, kBin3_s, e_cmp, kCmp1_v, kCmp1_r, kCmp2_v, kCmp2_r, kCmp3_s, e_idx, kIdx1_v, kIdx1_r, kIdx2_v, kIdx2_r, kIdx3_s, e_neg, kNeg1_v, kNeg1_r, e_tru, kTru1_v, kTru1_r, kNeg2_s, kTru2_s, e_isc, kIsc1_v, kIsc1_r, kIsc2_s, e_and, kAnd_t, kAnd_f, kAnd_r, e_or, kOr_t, kOr_f, kOr_r, e_not, kNot_t, kNot_f, kNot_r, e_ifx, kIfx_t, kIfx_f, kIfx_r, e_chn, kCh1_v, kCh1_r, kCh2_v, kCh2_r, kChP_s, kChB_t, kChB_f, kCh3_v, kCh3_r, kCh4_s, e_nil, e_cons, kCs1_v, kCs1_r, kCs2_v, kCs2_r, e_tup, kTu1_v, kTu1_r, kTu2_0, kTu2_1, kTu2_2, kTu2_3, kTu2_4, kTu2_5, kTu2_6, kTu2_7, kTu2_8, e_lst, kLi1_v, kLi1_r, kLi2_0, kLi2_1, kLi2_2, kLi2_3, kLi2_4, kLi2_5, kLi2_6, kLi2_7, kLi2_8, datL, Option.map_some, e_call, kCa1_v, kCa1_r, kCa2_o, kCa2_r, e_blt, kBl1_v, kBl1_r, kBl2_s, pl_nil, pl_cons, kPL_s, e_rng1, kR1_v, e_rng2, kR2_v, kR2_r, kR2b_v, e_comp, kC1_v, kC1_r, kC2_s, cl_nil, cl_cons, kCL_y, kCL_n, s_step, kS1_s, kS2_t, kS2_f, kS3_v, t_seq, kSq_n, kSq_t, kSq_r, kSq_b, t_nop, t_asg, kAs1_v, kAs1_r, kAs2_s, t_par, kPa1_v, kPa2_v, par_d, t_ret, kRt_v, kRt_r, t_exp, kEx_v, kEx_r, t_ite, kIt_t, kIt_f, kIt_r, t_rse, t_brk, t_try, kTr_r, kTr_n, kTr_t, t_for, kF1_v, kF1_r, kF2_s, fl_nil, fl_cons, kFL_n, kFL_t, kFL_r, kFL_b, s_for, kSF_s, kAp3_l, List.getElem?_cons_zero, List.getElem?_cons_succ, List.set_cons_zero, List.set_cons_succ, List.length_cons, List.length_nil, List.cons_append, List.nil_append, b_add, b_sub, b_mul, b_fdiv, b_mod, c_lt, c_le, c_gt, c_ge, c_eq, c_ne, c_eqi, c_nei, l_tup, l_list, l_abs, sq_t, sq_l, i_t1_0, i_l1_0, i_t2_0, i_l2_0, i_t2_1, i_l2_1, i_t3_0, i_l3_0, i_t3_1, i_l3_1, i_t3_2, i_l3_2, i_t4_0, i_l4_0, i_t4_1, i_l4_1, i_t4_2, i_l4_2, i_t4_3, i_l4_3, i_t5_0, i_l5_0, i_t5_1, i_l5_1, i_t5_2, i_l5_2, i_t5_3, i_l5_3, i_t5_4, i_l5_4, i_t6_0, i_l6_0, i_t6_1, i_l6_1, i_t6_2, i_l6_2, i_t6_3, i_l6_3, i_t6_4, i_l6_4, i_t6_5, i_l6_5, bt_nm, wp_nil, wp_cons, List.replicate, Nat.reduceSub, List.append_nil, Int.reduceLT, Int.reduceLE, Int.reduceBEq, Int.reduceSub, decide_true, decide_false, Bool.not_true, Bool.not_false, Bool.not_not, e_rz, e_rz1, e_ok, e_nx, isc_e, ln0, ln1, ln2, ln3, ln4, lt2, lt4, if_true, if_false, reduceIte, Bool.false_eq_true, bt_nil_t, bt_cons_t, bt_nil_l, bt_cons_l, Option.bind]
  rfl

def lift (x u y w : Int) : Q := ⟨u * u * w * w, 0 - 2 * x * u * w * w, 0 - 2 * y * w * u * u, x * x * w * w + y * y * u * u⟩
def ptD (x u y w : Int) : D := .tup [.tup [.int x, .int u], .tup [.int y, .int w]]
structure Bp (x u y w : Int) : Prop where
  x : Bd 30 x
  u : Bd 30 u
  y : Bd 30 y
  w : Bd 30 w
theorem lift_bd {x u y w : Int} (b : Bp x u y w) : Bd4 300 (lift x u y w).a (lift x u y w).b (lift x u y w).c (lift x u y w).d := by
  obtain ⟨b1, b2, b3, b4⟩ := b
  exact ⟨Bd.mono (Bd.mul (Bd.mul (Bd.mul b2 b2) b4) b4) (by decide), Bd.mono (Bd.sub Bd.zero (Bd.mul (Bd.mul (Bd.mul (Bd.mul Bd.two b1) b2) b4) b4)) (by decide), Bd.mono (Bd.sub Bd.zero (Bd.mul (Bd.mul (Bd.mul (Bd.mul Bd.two b3) b4) b2) b2)) (by decide), Bd.mono (Bd.add (Bd.mul (Bd.mul (Bd.mul b1 b1) b4) b4) (Bd.mul (Bd.mul (Bd.mul b3 b3) b2) b2)) (by decide)⟩

def htV (p : Q) (x u y w : Int) : Int := p.a * (x * x * w * w + y * y * u * u) + (p.b * x * w + p.c * y * u) * u * w + p.d * u * u * w * w
structure PtOk (x u y w : Int) : Prop where
  f1 : FrOk x u
  f2 : FrOk y w
theorem PtOk.bp {x u y w : Int} (h : PtOk x u y w) : Bp x u y w := ⟨inB30 h.f1.b1, inB30 h.f1.b2, inB30 h.f2.b1, inB30 h.f2.b2⟩
theorem plnP {x u y w : Int} : pln 60 (ptD x u y w) = true := rfl
theorem pfar : pln 60 (.str "far") = true := by decide +kernel
theorem dfar : deq (.str "far") (.str "far") = true := by decide +kernel
theorem dpf {x u y w : Int} : deq (ptD x u y w) (.str "far") = false := rfl
/-- the middle of a circle -/
def midD (b c a : Int) : D := .tup [frV (0 - b) (2 * a), frV (0 - c) (2 * a)]

def pmF (g : Q) : D := if g.a = 0 then .str "far" else midD g.b g.c g.a
def pmV (m : Q) : D := if m.a = 0 then .str "far" else midD m.b m.c m.a
theorem ll_loop {c : Ce} {b : Nat} {s0 s1 s4 : Sl} : ∀ (m : Nat) (p q : Int), 0 ≤ p → 0 ≤ q → q.natAbs < m → whlL (evE LW c (.cmp .gt (.arg 3) (.lit (.int 0)))) (evT LW c b (.par 2 3 (.var 3) (.bin .mod (.arg 2) (.arg 3)))) m [s0, s1, .d (.int p), .d (.int q), s4] S = some (.nx, [s0, s1, .d (.int (Int.gcd p q : Nat)), .d (.int 0), s4], S)
  | 0, p, q, _, _, h => absurd h (Nat.not_lt_zero _)
  | m + 1, p, q, hp, hq, h => by
    by_cases hb : q = 0
    · subst hb
      have e : ((Int.gcd p 0 : Nat) : Int) = p := by rw [Int.gcd_zero_right]; omega
      rw [e]
      rfl
    · have z2 := ll_loop (c := c) (b := b) (s0 := s0) (s1 := s1) (s4 := s4) m q (p.fmod q) hq (Int.fmod_nonneg_of_pos _ (by omega)) (by have := @fmod_abs p q hb; omega)
      rw [gcd_step] at z2
      have hb1 : decide (0 < q) = true := decide_eq_true (by omega)
      have hb2 : (q == 0) = false := beq_eq_false_iff_ne.mpr hb
      have t1 : evE LW c (.cmp .gt (.arg 3) (.lit (.int 0))) [s0, s1, .d (.int p), .d (.int q), s4] S = some (.v (.d (.bl true)), S) := by
        simp only [hb1, e_var, kV_d, kV_r, kVr_l, kVr_f, e_arg, kA_d, kA_r, e_lit, pk_d, pk_r, kPr_l, kPr_f, outD_s, outB_s, e_bin, kBin1_v, kBin1_r, kBin2_v, kBin2_r, kBin3_s, e_cmp, kCmp1_v, kCmp1_r, kCmp2_v, kCmp2_r, kCmp3_s, e_idx, kIdx1_v, kIdx1_r, kIdx2_v, kIdx2_r, kIdx3_s, e_neg, kNeg1_v, kNeg1_r, e_tru, kTru1_v, kTru1_r, kNeg2_s, kTru2_s, e_isc, kIsc1_v, kIsc1_r, kIsc2_s, e_and, kAnd_t, kAnd_f, kAnd_r, e_or, kOr_t, kOr_f, kOr_r, e_not, kNot_t, kNot_f, kNot_r, e_ifx, kIfx_t, kIfx_f, kIfx_r, e_chn, kCh1_v, kCh1_r, kCh2_v, kCh2_r, kChP_s, kChB_t, kChB_f, kCh3_v, kCh3_r, kCh4_s, e_nil, e_cons, kCs1_v, kCs1_r, kCs2_v, kCs2_r, e_tup, kTu1_v, kTu1_r, kTu2_0, kTu2_1, kTu2_2, kTu2_3, kTu2_4, kTu2_5, kTu2_6, kTu2_7, kTu2_8, e_lst, kLi1_v, kLi1_r, kLi2_0, kLi2_1, kLi2_2, kLi2_3, kLi2_4, kLi2_5, kLi2_6, kLi2_7, kLi2_8, datL, Option.map_some, e_call, kCa1_v, kCa1_r, kCa2_o, kCa2_r, e_blt, kBl1_v, kBl1_r, kBl2_s, pl_nil, pl_cons, kPL_s, e_rng1, kR1_v, e_rng2, kR2_v, kR2_r, kR2b_v, e_comp, kC1_v, kC1_r, kC2_s, cl_nil, cl_cons, kCL_y, kCL_n, s_step, kS1_s, kS2_t, kS2_f, kS3_v, t_seq, kSq_n, kSq_t, kSq_r, kSq_b, t_nop, t_asg, kAs1_v, kAs1_r, kAs2_s, t_par, kPa1_v, kPa2_v, par_d, t_ret, kRt_v, kRt_r, t_exp, kEx_v, kEx_r, t_ite, kIt_t, kIt_f, kIt_r, t_rse, t_brk, t_try, kTr_r, kTr_n, kTr_t, t_for, kF1_v, kF1_r, kF2_s, fl_nil, fl_cons, kFL_n, kFL_t, kFL_r, kFL_b, s_for, kSF_s, kAp3_l, List.getElem?_cons_zero, List.getElem?_cons_succ, List.set_cons_zero, List.set_cons_succ, List.length_cons, List.length_nil, List.cons_append, List.nil_append, b_add, b_sub, b_mul, b_fdiv, b_mod, c_lt, c_le, c_gt, c_ge, c_eq, c_ne, c_eqi, c_nei, l_tup, l_list, l_abs, sq_t, sq_l, i_t1_0, i_l1_0, i_t2_0, i_l2_0, i_t2_1, i_l2_1, i_t3_0, i_l3_0, i_t3_1, i_l3_1, i_t3_2, i_l3_2, i_t4_0, i_l4_0, i_t4_1, i_l4_1, i_t4_2, i_l4_2, i_t4_3, i_l4_3, i_t5_0, i_l5_0, i_t5_1, i_l5_1, i_t5_2, i_l5_2, i_t5_3, i_l5_3, i_t5_4, i_l5_4, i_t6_0, i_l6_0, i_t6_1, i_l6_1, i_t6_2, i_l6_2, i_t6_3, i_l6_3, i_t6_4, i_l6_4, i_t6_5, i_l6_5, bt_nm, wp_nil, wp_cons, List.replicate, Nat.reduceSub, List.append_nil, Int.reduceLT, Int.reduceLE, Int.reduceBEq, Int.reduceSub, decide_true, decide_false, Bool.not_true, Bool.not_false, Bool.not_not, e_rz, e_rz1, e_ok, e_nx, isc_e, ln0, ln1, ln2, ln3, ln4, lt2, lt4, if_true, if_false, reduceIte, Bool.false_eq_true, bt_nil_t, bt_cons_t, bt_nil_l, bt_cons_l, Option.bind]
      have t2 : evT LW c b (.par 2 3 (.var 3) (.bin .mod (.arg 2) (.arg 3))) [s0, s1, .d (.int p), .d (.int q), s4] S = some (.nx, [s0, s1, .d (.int q), .d (.int (p.fmod q)), s4], S) := by
        simp only [b_mod hb2, e_var, kV_d, kV_r, kVr_l, kVr_f, e_arg, kA_d, kA_r, e_lit, pk_d, pk_r, kPr_l, kPr_f, outD_s, outB_s, e_bin, kBin1_v, kBin1_r, kBin2_v, kBin2_r, kBin3_s, e_cmp, kCmp1_v, kCmp1_r, kCmp2_v, kCmp2_r, kCmp3_s, e_idx, kIdx1_v, kIdx1_r, kIdx2_v, kIdx2_r, kIdx3_s, e_neg, kNeg1_v, kNeg1_r, e_tru, kTru1_v, kTru1_r, kNeg2_s, kTru2_s, e_isc, kIsc1_v, kIsc1_r, kIsc2_s, e_and, kAnd_t, kAnd_f, kAnd_r, e_or, kOr_t, kOr_f, kOr_r, e_not, kNot_t, kNot_f, kNot_r, e_ifx, kIfx_t, kIfx_f, kIfx_r, e_chn, kCh1_v, kCh1_r, kCh2_v, kCh2_r, kChP_s, kChB_t, kChB_f, kCh3_v, kCh3_r, kCh4_s, e_nil, e_cons, kCs1_v, kCs1_r, kCs2_v, kCs2_r, e_tup, kTu1_v, kTu1_r, kTu2_0, kTu2_1, kTu2_2, kTu2_3, kTu2_4, kTu2_5, kTu2_6, kTu2_7, kTu2_8, e_lst, kLi1_v, kLi1_r, kLi2_0, kLi2_1, kLi2_2, kLi2_3, kLi2_4, kLi2_5, kLi2_6, kLi2_7, kLi2_8, datL, Option.map_some, e_call, kCa1_v, kCa1_r, kCa2_o, kCa2_r, e_blt, kBl1_v, kBl1_r, kBl2_s, pl_nil, pl_cons, kPL_s, e_rng1, kR1_v, e_rng2, kR2_v, kR2_r, kR2b_v, e_comp, kC1_v, kC1_r, kC2_s, cl_nil, cl_cons, kCL_y, kCL_n, s_step, kS1_s, kS2_t, kS2_f, kS3_v, t_seq, kSq_n, kSq_t, kSq_r, kSq_b, t_nop, t_asg, kAs1_v, kAs1_r, kAs2_s, t_par, kPa1_v, kPa2_v, par_d, t_ret, kRt_v, kRt_r, t_exp, kEx_v, kEx_r, t_ite, kIt_t, kIt_f, kIt_r, t_rse, t_brk, t_try, kTr_r, kTr_n, kTr_t, t_for, kF1_v, kF1_r, kF2_s, fl_nil, fl_cons, kFL_n, kFL_t, kFL_r, kFL_b, s_for, kSF_s, kAp3_l, List.getElem?_cons_zero, List.getElem?_cons_succ, List.set_cons_zero, List.set_cons_succ, List.length_cons, List.length_nil, List.cons_append, List.nil_append, b_add, b_sub, b_mul, b_fdiv, b_mod, c_lt, c_le, c_gt, c_ge, c_eq, c_ne, c_eqi, c_nei, l_tup, l_list, l_abs, sq_t, sq_l, i_t1_0, i_l1_0, i_t2_0, i_l2_0, i_t2_1, i_l2_1, i_t3_0, i_l3_0, i_t3_1, i_l3_1, i_t3_2, i_l3_2, i_t4_0, i_l4_0, i_t4_1, i_l4_1, i_t4_2, i_l4_2, i_t4_3, i_l4_3, i_t5_0, i_l5_0, i_t5_1, i_l5_1, i_t5_2, i_l5_2, i_t5_3, i_l5_3, i_t5_4, i_l5_4, i_t6_0, i_l6_0, i_t6_1, i_l6_1, i_t6_2, i_l6_2, i_t6_3, i_l6_3, i_t6_4, i_l6_4, i_t6_5, i_l6_5, bt_nm, wp_nil, wp_cons, List.replicate, Nat.reduceSub, List.append_nil, Int.reduceLT, Int.reduceLE, Int.reduceBEq, Int.reduceSub, decide_true, decide_false, Bool.not_true, Bool.not_false, Bool.not_not, e_rz, e_rz1, e_ok, e_nx, isc_e, ln0, ln1, ln2, ln3, ln4, lt2, lt4, if_true, if_false, reduceIte, Bool.false_eq_true, bt_nil_t, bt_cons_t, bt_nil_l, bt_cons_l, Option.bind]
      simp only [whlL, t1, t2]
      exact z2
def llW : T := (.whl (.cmp .gt (.arg 3) (.lit (.int 0))) (.par 2 3 (.var 3) (.bin .mod (.arg 2) (.arg 3))))
def llR : T := (.seq (.asg (.nm 4) (.ifx (.cmp .gt (.arg 1) (.lit (.int 0))) (.var 2) (.bin .sub (.lit (.int 0)) (.arg 2)))) (.ret (.tup (.cons (.bin .fdiv (.arg 0) (.arg 4)) (.cons (.bin .fdiv (.arg 1) (.arg 4)) .nil)))))
theorem Q.nullEq {m : Q} (h : m.pr m = 0) : m.b * m.b + m.c * m.c = 4 * (m.a * m.d) := by
  unfold Q.pr prV at h
  grind
theorem lift_null {x u y w : Int} : (lift x u y w).pr (lift x u y w) = 0 := by
  unfold Q.pr prV lift
  grind
theorem pr_lift {p : Q} {x u y w : Int} : p.pr (lift x u y w) = 0 - 2 * htV p x u y w := by
  unfold Q.pr prV lift htV
  grind
theorem mir_a {g : Q} {x u y w : Int} : ((lift x u y w).mir g).a = (w * (2 * g.a * x + g.b * u)) * (w * (2 * g.a * x + g.b * u)) + (u * (2 * g.a * y + g.c * w)) * (u * (2 * g.a * y + g.c * w)) := by
  unfold Q.mir Q.pr prV lift
  grind
theorem sq_nn {a : Int} : 0 ≤ a * a := by
  rcases Int.le_total 0 a with z | z
  · exact Int.mul_nonneg z z
  · exact Int.mul_nonneg_of_nonpos_of_nonpos z z
theorem sq_0 {a : Int} (h : a * a = 0) : a = 0 := by
  rcases Int.mul_eq_zero.mp h with z | z <;> exact z
theorem sq2_0 {a b : Int} (h : a * a + b * b = 0) : a = 0 ∧ b = 0 := by
  have := @sq_nn a
  have := @sq_nn b
  exact ⟨sq_0 (by omega), sq_0 (by omega)⟩
theorem far_iff {g : Q} {x u y w : Int} (hu : u ≠ 0) (hw : w ≠ 0) : ((lift x u y w).mir g).a = 0 ↔ (2 * g.a * x + g.b * u = 0 ∧ 2 * g.a * y + g.c * w = 0) := by
  rw [mir_a]
  constructor
  · intro h
    obtain ⟨h1, h2⟩ := sq2_0 h
    exact ⟨(Int.mul_eq_zero.mp h1).resolve_left hw, (Int.mul_eq_zero.mp h2).resolve_left hu⟩
  · intro ⟨h1, h2⟩
    rw [h1, h2]
    simp
/-- a reduced fraction is what its numbers are -/
theorem fr_is {t u p q : Int} (hu : u ≠ 0) (hq : 0 < q) (h : Int.gcd p q = 1) (e : t * q = p * u) : frV t u = .tup [.int p, .int q] := by
  rw [fr_eq (t' := p) (u' := q) hu (by omega) e]
  unfold frV
  rw [(fr_self hq h).1, (fr_self hq h).2]
theorem wpos {u w : Int} (hu : 0 < u) (hw : 0 < w) : 0 < u * u * w * w := Int.mul_pos (Int.mul_pos (Int.mul_pos hu hu) hw) hw
theorem mul_cancel {k a b : Int} (hk : k ≠ 0) (e : k * a = k * b) : a = b := Int.eq_of_mul_eq_mul_left hk e
/-- the lift of the point of a null four -/
theorem lift_of {m : Q} (h0 : m.pr m = 0) (ha : m.a ≠ 0) {p q r s : Int} (e1 : (0 - m.b) * q = p * (2 * m.a)) (e2 : (0 - m.c) * s = r * (2 * m.a)) : Q.mul m.a (lift p q r s) = Q.mul (q * s * (q * s)) m := by
  have nl := Q.nullEq h0
  refine Q.ext ?_ ?_ ?_ ?_
  · simp only [Q.mul, lift]; grind
  · simp only [Q.mul, lift]
    have : m.a * (0 - 2 * p * q * s * s) = (0 - p * (2 * m.a)) * (q * s * s) := by grind
    rw [this, ← e1]
    grind
  · simp only [Q.mul, lift]
    have : m.a * (0 - 2 * r * s * q * q) = (0 - r * (2 * m.a)) * (s * q * q) := by grind
    rw [this, ← e2]
    grind
  · simp only [Q.mul, lift]
    refine mul_cancel (k := 4 * m.a) (by omega) ?_
    have a1 : 4 * m.a * (m.a * (p * p * s * s + r * r * q * q)) = (p * (2 * m.a)) * (p * (2 * m.a)) * (s * s) + (r * (2 * m.a)) * (r * (2 * m.a)) * (q * q) := by grind
    rw [a1, ← e1, ← e2]
    have a2 : (0 - m.b) * q * ((0 - m.b) * q) * (s * s) + (0 - m.c) * s * ((0 - m.c) * s) * (q * q) = (m.b * m.b + m.c * m.c) * (q * s * (q * s)) := by grind
    rw [a2, nl]
    grind
section
variable {g p dq : Q} {x u y w : Int} (hg : 0 < g.pr g) (hu : 0 < u) (hw : 0 < w)
include hg hu hw
/-- a mirrored point, mirrored again -/
theorem back {p q r s : Int} (ha : ((lift x u y w).mir g).a ≠ 0) (e1 : (0 - ((lift x u y w).mir g).b) * q = p * (2 * ((lift x u y w).mir g).a)) (e2 : (0 - ((lift x u y w).mir g).c) * s = r * (2 * ((lift x u y w).mir g).a)) (hq : 0 < q) (hs : 0 < s) (g1 : Int.gcd x u = 1) (g2 : Int.gcd y w = 1) : pmV ((lift p q r s).mir g) = ptD x u y w := by
  have n0 : ((lift x u y w).mir g).pr ((lift x u y w).mir g) = 0 := by rw [pr_mir, lift_null, Int.mul_zero]
  have l := lift_of n0 ha e1 e2
  have k : Q.mul ((lift x u y w).mir g).a ((lift p q r s).mir g) = Q.mul (q * s * (q * s)) (Q.mul (g.pr g * g.pr g) (lift x u y w)) := by
    rw [← mir_mul, l, mir_mul, mir_mir]
  generalize ((lift x u y w).mir g).a = A at *
  generalize (lift p q r s).mir g = m at *
  generalize hK : q * s * (q * s) * (g.pr g * g.pr g) = K
  have kp : 0 < K := by rw [← hK]; exact Int.mul_pos (Int.mul_pos (Int.mul_pos hq hs) (Int.mul_pos hq hs)) (Int.mul_pos hg hg)
  have ka : A * m.a = K * (u * u * w * w) := by
    have := congrArg Q.a k
    simp only [Q.mul, lift] at this
    rw [this, ← hK]; grind
  have kb : A * m.b = K * (0 - 2 * x * u * w * w) := by
    have := congrArg Q.b k
    simp only [Q.mul, lift] at this
    rw [this, ← hK]; grind
  have kc : A * m.c = K * (0 - 2 * y * w * u * u) := by
    have := congrArg Q.c k
    simp only [Q.mul, lift] at this
    rw [this, ← hK]; grind
  have ma : m.a ≠ 0 := fun z => by
    rw [z, Int.mul_zero] at ka
    have := Int.mul_pos kp (wpos hu hw)
    omega
  unfold pmV midD ptD
  rw [if_neg ma, fr_is (by omega) hu g1 (mul_cancel ha (by
    have a1 : A * ((0 - m.b) * u) = (0 - A * m.b) * u := by grind
    have a2 : A * (x * (2 * m.a)) = 2 * x * (A * m.a) := by grind
    rw [a1, a2, ka, kb]; grind)), fr_is (by omega) hw g2 (mul_cancel ha (by
    have a1 : A * ((0 - m.c) * w) = (0 - A * m.c) * w := by grind
    have a2 : A * (y * (2 * m.a)) = 2 * y * (A * m.a) := by grind
    rw [a1, a2, ka, kc]; grind))]
/-- on a circle, if its image is on the circle's -/
theorem on_pt {k : Int} (hk : k ≠ 0) (hd : p.mir g = Q.mul k dq) {a b r s : Int} (ha : ((lift x u y w).mir g).a ≠ 0) (e1 : (0 - ((lift x u y w).mir g).b) * b = a * (2 * ((lift x u y w).mir g).a)) (e2 : (0 - ((lift x u y w).mir g).c) * s = r * (2 * ((lift x u y w).mir g).a)) (hq : 0 < b) (hs : 0 < s) : htV dq a b r s = 0 ↔ htV p x u y w = 0 := by
  have n0 : ((lift x u y w).mir g).pr ((lift x u y w).mir g) = 0 := by rw [pr_mir, lift_null, Int.mul_zero]
  have l := lift_of n0 ha e1 e2
  have z : k * (((lift x u y w).mir g).a * dq.pr (lift a b r s)) = b * s * (b * s) * (g.pr g * g.pr g * p.pr (lift x u y w)) := by
    rw [← pr_mir, hd, ← pr_mulR, l, pr_mulR, pr_mulL]
    grind
  rw [pr_lift, pr_lift] at z
  generalize ((lift x u y w).mir g).a = A at *
  have kp : 0 < b * s * (b * s) * (g.pr g * g.pr g) := Int.mul_pos (Int.mul_pos (Int.mul_pos hq hs) (Int.mul_pos hq hs)) (Int.mul_pos hg hg)
  constructor
  · intro h
    rw [h] at z
    have : b * s * (b * s) * (g.pr g * g.pr g) * htV p x u y w = 0 := by grind
    exact (Int.mul_eq_zero.mp this).resolve_left (by omega)
  · intro h
    rw [h] at z
    have : k * A * htV dq a b r s = 0 := by grind
    exact (Int.mul_eq_zero.mp this).resolve_left (Int.mul_ne_zero hk ha)
theorem on_far {k : Int} (hk : k ≠ 0) (hd : p.mir g = Q.mul k dq) (ha : ((lift x u y w).mir g).a = 0) : dq.a = 0 ↔ htV p x u y w = 0 := by
  have n0 : ((lift x u y w).mir g).pr ((lift x u y w).mir g) = 0 := by rw [pr_mir, lift_null, Int.mul_zero]
  have nl := Q.nullEq n0
  have bk := @mir_mir (lift x u y w) g
  have z := @pr_mir p (lift x u y w) g
  rw [pr_lift, hd] at z
  generalize (lift x u y w).mir g = m at *
  rw [ha, Int.zero_mul, Int.mul_zero] at nl
  obtain ⟨mb, mc⟩ := sq2_0 nl
  have pm : m.pr g = 0 - 2 * g.a * m.d := by
    unfold Q.pr prV
    rw [ha, mb, mc]
    grind
  have e := congrArg Q.a bk
  unfold Q.mir at e
  rw [pm] at e
  simp only [ha, Q.mul, lift] at e
  have md : m.d ≠ 0 := fun q => by
    rw [q] at e
    have := Int.mul_pos (Int.mul_pos hg hg) (wpos hu hw)
    grind
  have z2 : (Q.mul k dq).pr m = 0 - 2 * (k * dq.a) * m.d := by
    unfold Q.pr prV Q.mul
    rw [ha, mb, mc]
    grind
  rw [z2] at z
  constructor
  · intro h
    rw [h] at z
    have : g.pr g * g.pr g * htV p x u y w = 0 := by grind
    exact (Int.mul_eq_zero.mp this).resolve_left (Int.mul_ne_zero (by omega) (by omega))
  · intro h
    rw [h] at z
    have : k * m.d * dq.a = 0 := by grind
    exact (Int.mul_eq_zero.mp this).resolve_left (Int.mul_ne_zero hk md)
end

theorem e_okC {R : Sto} {fr : Fr} {x : D} {v : Cl} : ends (List.length R + 1) (some (.ret x, fr, v :: R)) = some (.ok x, v :: R) := ends_ret rfl
abbrev okS (m : Nat) (p : Q) : Prop := OkS m p.a p.b p.c p.d
theorem okS.q {m : Nat} {p : Q} (h : okS m p) (q : m ≤ 1000000000) : okQ p := OkS.ok h q
variable {n : Nat} {R : Sto} {ns : List Int} {xs : List D}
abbrev tw (xs : List D) (R : Sto) : Sto := .live (.lst xs) :: R
theorem dr (m : Int) (hm : 0 < m) (hx : xs.length < 900000) : ∃ z : Int, 0 ≤ z ∧ z < m ∧ ∀ n, callE LW Pr (n + 3) 16 [.d (.scr ns), .ref 0, .d (.int m)] (.live (.lst xs) :: R) = some (.ok (.int z), .live (.lst (xs ++ [.int 0])) :: R) := by
  have z := @drawV_lt ns (xs.length + 1) m hm
  exact ⟨_, z.1, z.2, fun n => ev_draw ls.hcl ls.hmx ls.hdw hm rfl hx⟩
theorem pk (n : Nat) {ys : List D} (hy : 0 < ys.length) (hx : xs.length < 900000) : ∃ y ∈ ys, callE LW Pr (n + 4) 17 [.d (.scr ns), .ref 0, .d (.lst ys)] (.live (.lst xs) :: R) = some (.ok y, .live (.lst (xs ++ [.int 0])) :: R) :=
  ev_pick ls.hcl ls.hmx ls.hdw rfl hy rfl hx
/-- a small fraction -/
structure FrS (p q : Int) : Prop where
  ok : FrOk p q
  p : p.natAbs ≤ 12
  q : q.natAbs ≤ 6

theorem fr_small {t u : Int} (h0 : 0 < u) (h1 : t.natAbs ≤ 12) (h2 : u.natAbs ≤ 6) : FrS (frN t u) (frD t u) := by
  obtain ⟨k, hk, e1, e2, h3, h4⟩ := @fr_split t u (by omega)
  have l := fr_le (m := 12) (t := t) (u := u) (by omega) h1 (by omega)
  have l2 : (frD t u).natAbs ≤ 6 := le_of_mul (k := k) hk (by rw [← e2]; exact h2)
  exact ⟨⟨inB_of (by omega) (by omega), inB_of (by omega) (by omega), h3, h4⟩, l.1, l2⟩
def wtV (p : Q) (x u y w : Int) : Int := p.a * x * x * w * w + p.a * y * y * u * u + p.b * x * u * w * w + p.c * y * w * u * u + p.d * (u * u * w * w)
theorem wt_ht {p : Q} {x u y w : Int} : wtV p x u y w = htV p x u y w := by
  unfold wtV htV
  grind
theorem v_lpr {S : Sto} {p q : Q} (hp : Bd4 30 p.a p.b p.c p.d) (hq : Bd4 30 q.a q.b q.c q.d) : callE LW Pr (n + 1) 19 [.d p.t, .d q.t] S = some (.ok (.int (p.pr q)), S) := ev_lproduct ls.hlp .d .d is4T is4T (hp.mono (by decide)) (hq.mono (by decide))

theorem ht_bd {p : Q} {x u y w : Int} (bp : Bd4 30 p.a p.b p.c p.d) (b : Bp x u y w) : Bd 700 (htV p x u y w) := by
  obtain ⟨b1, b2, b3, b4⟩ := b
  obtain ⟨p1, p2, p3, p4⟩ := bp
  exact Bd.mono (Bd.add (Bd.add (Bd.mul p1 (Bd.add (Bd.mul (Bd.mul (Bd.mul b1 b1) b4) b4) (Bd.mul (Bd.mul (Bd.mul b3 b3) b2) b2))) (Bd.mul (Bd.mul (Bd.add (Bd.mul (Bd.mul p2 b1) b4) (Bd.mul (Bd.mul p3 b3) b2)) b2) b4)) (Bd.mul (Bd.mul (Bd.mul (Bd.mul p4 b2) b2) b4) b4)) (by decide)
theorem mir_st {g : Q} {x u y w : Int} : ((lift x u y w).mir g).a = g.pr g * (u * u * w * w) + 4 * g.a * htV g x u y w ∧ ((lift x u y w).mir g).b = g.pr g * (0 - 2 * x * u * w * w) + 4 * g.b * htV g x u y w ∧ ((lift x u y w).mir g).c = g.pr g * (0 - 2 * y * w * u * u) + 4 * g.c * htV g x u y w := by
  have e : (lift x u y w).pr g = 0 - 2 * htV g x u y w := by rw [pr_comm, pr_lift]
  unfold Q.mir
  rw [e]
  generalize g.pr g = own
  generalize htV g x u y w = top
  simp only [lift]
  refine ⟨?_, ?_, ?_⟩ <;> grind
theorem le_mul {x y : Int} {m k : Nat} (h1 : x.natAbs ≤ m) (h2 : y.natAbs ≤ k) : (x * y).natAbs ≤ m * k := by
  rw [Int.natAbs_mul]
  exact Nat.mul_le_mul h1 h2
theorem pr_le {p g : Q} {m k : Nat} (hp : Le4 m p.a p.b p.c p.d) (hg : Le4 k g.a g.b g.c g.d) : (p.pr g).natAbs ≤ 6 * (m * k) := by
  have a1 := le_mul hp.b hg.b
  have a2 := le_mul hp.c hg.c
  have a3 := le_mul hp.a hg.d
  have a4 := le_mul hp.d hg.a
  unfold Q.pr prV
  rw [Int.mul_assoc 2 p.a g.d, Int.mul_assoc 2 p.d g.a]
  omega
theorem mir_le {p g : Q} {m k : Nat} (hp : Le4 m p.a p.b p.c p.d) (hg : Le4 k g.a g.b g.c g.d) : Le4 (6 * (k * k) * m + 2 * (6 * (m * k)) * k) (p.mir g).a (p.mir g).b (p.mir g).c (p.mir g).d := by
  have o1 := pr_le hg hg
  have o2 := pr_le hp hg
  have t2 : (2 * p.pr g).natAbs ≤ 2 * (6 * (m * k)) := by omega
  have st : ∀ {x y : Int}, x.natAbs ≤ m → y.natAbs ≤ k → (g.pr g * x - 2 * p.pr g * y).natAbs ≤ 6 * (k * k) * m + 2 * (6 * (m * k)) * k := fun {x y} hx hy => by
    have a1 := le_mul o1 hx
    have a2 := le_mul t2 hy
    omega
  exact ⟨st hp.a hg.a, st hp.b hg.b, st hp.c hg.c, st hp.d hg.d⟩
theorem okS.mono {m k : Nat} {p : Q} (h : okS m p) (q : m ≤ k) : okS k p := ⟨⟨Nat.le_trans h.le.a q, Nat.le_trans h.le.b q, Nat.le_trans h.le.c q, Nat.le_trans h.le.d q⟩, h.pr, h.by1⟩
/-- a tidied four is a circle -/
theorem tidQ {m : Nat} {p : Q} (h : Le4 m p.a p.b p.c p.d) (hp : 0 < p.pr p) : ∃ q : Q, okS m q ∧ p.tid = q.t ∧ ∃ k : Int, k ≠ 0 ∧ p = Q.mul k q := by
  obtain ⟨k, a', b', c', d', -, hk, h1, h2, h3, h4, e, e1⟩ := tid_split (fst4_ne (a := p.a) (b := p.b) (c := p.c) (d := p.d) hp)
  have pq : p = Q.mul k ⟨a', b', c', d'⟩ := Q.ext h1 h2 h3 h4
  refine ⟨⟨a', b', c', d'⟩, ⟨⟨le_of_mul hk (h1 ▸ h.a), le_of_mul hk (h2 ▸ h.b), le_of_mul hk (h3 ▸ h.c), le_of_mul hk (h4 ▸ h.d)⟩, ?_, e1⟩, e, k, hk, pq⟩
  rw [pq, pr_mulL, pr_mulR] at hp
  show 0 < Q.pr ⟨a', b', c', d'⟩ ⟨a', b', c', d'⟩
  generalize Q.pr ⟨a', b', c', d'⟩ ⟨a', b', c', d'⟩ = z at *
  have kk : 0 < k * k := by
    rcases Int.lt_trichotomy 0 k with q | q | q
    · exact Int.mul_pos q q
    · exact absurd q.symm hk
    · exact Int.mul_pos_of_neg_of_neg q q
  rw [← Int.mul_assoc] at hp
  rcases Int.lt_trichotomy 0 z with q | q | q
  · exact q
  · rw [← q, Int.mul_zero] at hp; omega
  · have := Int.mul_neg_of_pos_of_neg kk q; omega
theorem mirQ {m k : Nat} {p g : Q} (hp : okS m p) (hg : okS k g) : ∃ q : Q, okS (6 * (k * k) * m + 2 * (6 * (m * k)) * k) q ∧ (p.mir g).tid = q.t ∧ ∃ z : Int, z ≠ 0 ∧ p.mir g = Q.mul z q := tidQ (mir_le hp.le hg.le) (mir_pos hp.pr hg.pr)
theorem by4_one {b c d : Int} : by4 1 b c d = 1 := by
  unfold by4 fst4 gcd4
  simp
theorem okS_1 {m : Nat} {b c d : Int} (hb : b.natAbs ≤ m) (hc : c.natAbs ≤ m) (hd : d.natAbs ≤ m) (h1 : 1 ≤ m) (h : 0 < prV 1 b c d 1 b c d) : okS m ⟨1, b, c, d⟩ := ⟨⟨h1, hb, hc, hd⟩, h, by4_one⟩
theorem v_ltq {S : Sto} {p : Q} (bp : Bd4 1000 p.a p.b p.c p.d) (hp : 0 < p.pr p) : callE LW Pr (n + 1) 20 [.d (.lst [.int p.a, .int p.b, .int p.c, .int p.d])] S = some (.ok p.tid, S) := ev_ltidy ls.hlt is4L (bp.mono (by decide)) (fst4_ne hp)

theorem tid_scale {p : Q} {z : Int} (hz : z ≠ 0) (h : 0 < p.pr p) : (Q.mul z p).tid = p.tid := by
  obtain ⟨k, a', b', c', d', -, hk, h1, h2, h3, h4, e, e1⟩ := tid_split (fst4_ne (a := p.a) (b := p.b) (c := p.c) (d := p.d) h)
  unfold Q.tid
  rw [e]
  simp only [Q.mul]
  rw [h1, h2, h3, h4, ← Int.mul_assoc, ← Int.mul_assoc, ← Int.mul_assoc, ← Int.mul_assoc]
  exact tid_mul (Int.mul_ne_zero hz hk) e1
theorem tid_p {m : Nat} {p : Q} {z : Int} (hz : z ≠ 0) (h : okS m p) : (Q.mul z p).tid = p.t := tid_mul hz h.by1
/-- mirrored twice -/
theorem twice {m k : Nat} {p g dq : Q} {z : Int} (hp : okS m p) (hg : okS k g) (hd : 0 < dq.pr dq) (hz : z ≠ 0) (h : p.mir g = Q.mul z dq) : (dq.mir g).tid = p.t := by
  have og : 0 < g.pr g := hg.pr
  have e : Q.mul z (dq.mir g) = Q.mul (g.pr g * g.pr g) p := by rw [← mir_mul, ← h, mir_mir]
  rw [← tid_scale hz (mir_pos hd og), e]
  exact tid_p (Int.mul_ne_zero (by omega) (by omega)) hp
theorem glass_self {k : Nat} {g : Q} (hg : okS k g) : (g.mir g).tid = g.t := by
  have og : 0 < g.pr g := hg.pr
  rw [mir_self]
  exact tid_p (by omega) hg
theorem right_iff {p q : Q} (hp : 0 < p.pr p) (hq : 0 < q.pr q) : is01 (slV p q) = (p.pr q == 0) := by
  have ne := own_ne hp hq
  unfold slV
  by_cases h : p.pr q = 0
  · have e : frV (p.pr q * p.pr q) (p.pr p * q.pr q) = .tup [.int 0, .int 1] := fr_is ne (by decide) (by decide) (by rw [h]; simp)
    rw [e, h]
    rfl
  · have h1 : (p.pr q == 0) = false := beq_eq_false_iff_ne.mpr h
    rw [h1]
    have c := fr_cross (t := p.pr q * p.pr q) ne
    unfold is01 frV
    rw [Bool.eq_false_iff]
    intro z
    simp only [deq, deqL, Bool.and_true, Bool.and_eq_true, beq_iff_eq] at z
    rw [z.1, z.2] at c
    have : p.pr q * p.pr q = 0 := by omega
    exact h (sq_0 this)
section
variable {p q g a b : Q} {y z : Int}
/-- products of mirrored circles -/
theorem pr_kept (hy : p.mir g = Q.mul y a) (hz : q.mir g = Q.mul z b) : y * z * a.pr b = g.pr g * g.pr g * p.pr q := by
  rw [← pr_mir, hy, hz, pr_mulL, pr_mulR]
  grind
theorem slant_kept (hg : 0 < g.pr g) (hp : 0 < p.pr p) (hq : 0 < q.pr q) (ha : 0 < a.pr a) (hb : 0 < b.pr b) (y0 : y ≠ 0) (z0 : z ≠ 0) (hy : p.mir g = Q.mul y a) (hz : q.mir g = Q.mul z b) : a.pr b * a.pr b * (p.pr p * q.pr q) = p.pr q * p.pr q * (a.pr a * b.pr b) := by
  have k1 := pr_kept hy hz
  have k2 := pr_kept hy hy
  have k3 := pr_kept hz hz
  have w : g.pr g * g.pr g ≠ 0 := Int.mul_ne_zero (by omega) (by omega)
  generalize g.pr g * g.pr g = w0 at *
  generalize a.pr b = ab at *
  generalize a.pr a = aa at *
  generalize b.pr b = bb at *
  generalize p.pr q = pq at *
  generalize p.pr p = pp at *
  generalize q.pr q = qq at *
  refine mul_cancel (k := w0 * w0) (Int.mul_ne_zero w w) ?_
  have e1 : w0 * w0 * (ab * ab * (pp * qq)) = ab * ab * ((w0 * pp) * (w0 * qq)) := by grind
  have e2 : w0 * w0 * (pq * pq * (aa * bb)) = (w0 * pq) * (w0 * pq) * (aa * bb) := by grind
  rw [e1, e2, ← k1, ← k2, ← k3]
  grind
/-- a word is kept -/
theorem meet_kept (hg : 0 < g.pr g) (hp : 0 < p.pr p) (hq : 0 < q.pr q) (ha : 0 < a.pr a) (hb : 0 < b.pr b) (y0 : y ≠ 0) (z0 : z ≠ 0) (hy : p.mir g = Q.mul y a) (hz : q.mir g = Q.mul z b) (hs : deq a.t b.t = deq p.t q.t) : meetV a b = meetV p q := by
  have e := slant_kept hg hp hq ha hb y0 z0 hy hz
  have o1 := Int.mul_pos hp hq
  have o2 := Int.mul_pos ha hb
  unfold meetV
  rw [hs]
  generalize a.pr b * a.pr b = t at *
  generalize p.pr q * p.pr q = t' at *
  generalize p.pr p * q.pr q = u' at *
  generalize a.pr a * b.pr b = u at *
  have c1 : t = u ↔ t' = u' := by
    constructor
    · intro h; subst h
      have : t * u' = t * t' := by rw [e, Int.mul_comm]
      exact (Int.eq_of_mul_eq_mul_left (by omega) this).symm
    · intro h; subst h
      have : t' * t = t' * u := by rw [← e, Int.mul_comm]
      exact Int.eq_of_mul_eq_mul_left (by omega) this
  have c2 : t < u ↔ t' < u' := by
    constructor
    · intro h
      have : t * u' < u * u' := Int.mul_lt_mul_of_pos_right h o1
      rw [e, Int.mul_comm u u'] at this
      exact Int.lt_of_mul_lt_mul_right this (by omega)
    · intro h
      have : t' * u < u' * u := Int.mul_lt_mul_of_pos_right h o2
      rw [← e, Int.mul_comm u' u] at this
      exact Int.lt_of_mul_lt_mul_right this (by omega)
  simp only [c1, c2]
end

end Lq

namespace Lq
open PySem PySem.Spec PyProof.Rows L2 Cm

theorem qt0 {p : Q} : itemD p.t 0 = some (.int p.a) := rfl
theorem qt1 {p : Q} : itemD p.t 1 = some (.int p.b) := rfl
theorem qt2 {p : Q} : itemD p.t 2 = some (.int p.c) := rfl
theorem qt3 {p : Q} : itemD p.t 3 = some (.int p.d) := rfl
theorem t_inj {p q : Q} (h : p.t = q.t) : p = q := by
  unfold Q.t at h
  simp only [D.tup.injEq, List.cons.injEq, D.int.injEq, and_true] at h
  exact Q.ext h.1 h.2.1 h.2.2.1 h.2.2.2
def tdQ (p : Q) : Q := ⟨p.a.fdiv (by4 p.a p.b p.c p.d), p.b.fdiv (by4 p.a p.b p.c p.d), p.c.fdiv (by4 p.a p.b p.c p.d), p.d.fdiv (by4 p.a p.b p.c p.d)⟩
theorem td_t {p : Q} : p.tid = (tdQ p).t := rfl
theorem tdQ_ok {m : Nat} {p : Q} (h : Le4 m p.a p.b p.c p.d) (hp : 0 < p.pr p) : okS m (tdQ p) ∧ ∃ k : Int, k ≠ 0 ∧ p = Q.mul k (tdQ p) := by
  obtain ⟨q, h1, h2, h3⟩ := tidQ h hp
  have e : tdQ p = q := t_inj (td_t.symm.trans h2)
  rw [e]
  exact ⟨h1, h3⟩
theorem tdQ_mul {m : Nat} {p : Q} {z : Int} (hz : z ≠ 0) (h : okS m p) : tdQ (Q.mul z p) = p := t_inj (td_t.symm.trans (tid_p hz h))
theorem tdQ_scale {p : Q} {z : Int} (hz : z ≠ 0) (h : 0 < p.pr p) : tdQ (Q.mul z p) = tdQ p := t_inj (td_t.symm.trans ((tid_scale hz h).trans td_t))
theorem tdQ_pos {p : Q} (h : 0 < p.pr p) : 0 < (tdQ p).pr (tdQ p) := by
  have l : Le4 (p.a.natAbs + p.b.natAbs + p.c.natAbs + p.d.natAbs) p.a p.b p.c p.d := ⟨by omega, by omega, by omega, by omega⟩
  exact (tdQ_ok l h).1.pr
theorem tdQ_ex {p : Q} (h : 0 < p.pr p) : ∃ k : Int, k ≠ 0 ∧ p = Q.mul k (tdQ p) := by
  have l : Le4 (p.a.natAbs + p.b.natAbs + p.c.natAbs + p.d.natAbs) p.a p.b p.c p.d := ⟨by omega, by omega, by omega, by omega⟩
  exact (tdQ_ok l h).2
def cmb (s f : Int) (p q : Q) : Q := ⟨s * p.a - f * q.a, s * p.b - f * q.b, s * p.c - f * q.c, s * p.d - f * q.d⟩
theorem pr_cmb {s f : Int} {p q r : Q} : (cmb s f p q).pr r = s * p.pr r - f * q.pr r := by
  unfold cmb Q.pr prV
  grind
theorem pr_cmb2 {s f : Int} {p q : Q} : (cmb s f p q).pr (cmb s f p q) = s * s * p.pr p - 2 * (s * f * p.pr q) + f * f * q.pr q := by
  rw [pr_cmb, pr_comm (p := p) (q := cmb s f p q), pr_comm (p := q) (q := cmb s f p q), pr_cmb, pr_cmb, pr_comm (p := q) (q := p)]
  generalize p.pr p = a
  generalize p.pr q = b
  generalize q.pr q = c
  grind
section
variable {p q g : Q} {e : Int}
/-- the four in which one is mirrored to the other -/
theorem ex_pr (h : e * e = p.pr p * q.pr q) : (cmb e (p.pr p) p q).pr (cmb e (p.pr p) p q) = 2 * p.pr p * (e * (e - p.pr q)) := by
  rw [pr_cmb2]
  generalize p.pr p = P at *
  generalize p.pr q = m at *
  generalize q.pr q = N at *
  have : P * P * N = P * (e * e) := by rw [h]; grind
  rw [this]
  grind
theorem mir_gl {z : Int} : p.mir (Q.mul z g) = Q.mul (z * z) (p.mir g) := by
  unfold Q.mir
  rw [pr_mulL, pr_mulR, pr_mulR]
  generalize g.pr g = G
  generalize p.pr g = m
  refine Q.ext ?_ ?_ ?_ ?_ <;> (simp only [Q.mul]; grind)
theorem ex_mp (h : e * e = p.pr p * q.pr q) : p.mir (cmb e (p.pr p) p q) = Q.mul (2 * p.pr p * p.pr p * (e - p.pr q)) q := by
  have e1 := ex_pr h
  have e2 : p.pr (cmb e (p.pr p) p q) = p.pr p * (e - p.pr q) := by
    rw [pr_comm, pr_cmb, pr_comm (p := q) (q := p)]
    generalize p.pr p = P
    generalize p.pr q = m
    grind
  unfold Q.mir
  rw [e1, e2]
  generalize p.pr p = P
  generalize p.pr q = m
  refine Q.ext ?_ ?_ ?_ ?_ <;> (simp only [Q.mul, cmb]; grind)
theorem ex_mq (h : e * e = p.pr p * q.pr q) : q.mir (cmb e (p.pr p) p q) = Q.mul (2 * e * e * (e - p.pr q)) p := by
  have e1 := ex_pr h
  have e2 : q.pr (cmb e (p.pr p) p q) = 0 - e * (e - p.pr q) := by
    rw [pr_comm, pr_cmb, ← h]
    generalize p.pr q = m
    grind
  unfold Q.mir
  rw [e1, e2]
  generalize p.pr p = P
  generalize p.pr q = m
  refine Q.ext ?_ ?_ ?_ ?_ <;> (simp only [Q.mul, cmb]; grind)
theorem ex_f {m k : Nat} (hp : okS m p) (hq : okS k q) (h : e * e = p.pr p * q.pr q) (hs : 0 < (cmb e (p.pr p) p q).pr (cmb e (p.pr p) p q)) : tdQ (p.mir (tdQ (cmb e (p.pr p) p q))) = q ∧ tdQ (q.mir (tdQ (cmb e (p.pr p) p q))) = p := by
  have pp : 0 < p.pr p := hp.pr
  have pq : 0 < q.pr q := hq.pr
  obtain ⟨z, hz, ez⟩ := tdQ_ex hs
  have pf := tdQ_pos hs
  have mp := ex_mp h
  have mq := ex_mq h
  have ep := ex_pr h
  have ne : p.pr p * (e * (e - p.pr q)) ≠ 0 := by
    intro w
    have : 2 * p.pr p * (e * (e - p.pr q)) = 2 * (p.pr p * (e * (e - p.pr q))) := by grind
    omega
  have ne2 : e - p.pr q ≠ 0 := fun w => ne (by rw [w]; simp)
  have ne3 : e ≠ 0 := fun w => ne (by rw [w]; simp)
  generalize tdQ (cmb e (p.pr p) p q) = f at *
  rw [ez, mir_gl] at mp mq
  have zz := Int.mul_ne_zero hz hz
  constructor
  · rw [← tdQ_scale zz (mir_pos pp pf), mp]
    exact tdQ_mul (Int.mul_ne_zero (Int.mul_ne_zero (by omega) (by omega)) ne2) hq
  · rw [← tdQ_scale zz (mir_pos pq pf), mq]
    exact tdQ_mul (Int.mul_ne_zero (Int.mul_ne_zero (by omega) ne3) ne2) hp
/-- a glass that exchanges them is one of the two -/
theorem ex_g {m k l : Nat} {R : Int} (hp : okS m p) (hq : okS k q) (hg : okS l g) (hR : R * R = p.pr p * q.pr q) (hpq : p ≠ q) (hm : tdQ (p.mir g) = q) : ∃ e : Int, (e = R ∨ e = 0 - R) ∧ 0 < (cmb e (p.pr p) p q).pr (cmb e (p.pr p) p q) ∧ tdQ (cmb e (p.pr p) p q) = g := by
  have pp : 0 < p.pr p := hp.pr
  have pg : 0 < g.pr g := hg.pr
  obtain ⟨z, hz, ez⟩ := tdQ_ex (mir_pos pp pg)
  rw [hm] at ez
  have own : z * z * q.pr q = g.pr g * g.pr g * p.pr p := by
    have := @pr_mir p p g
    rw [ez, pr_mulL, pr_mulR] at this
    rw [← this, Int.mul_assoc]
  have n0 : p.pr g ≠ 0 := fun w => by
    have e : p.mir g = Q.mul (g.pr g) p := by
      unfold Q.mir
      rw [w]
      refine Q.ext ?_ ?_ ?_ ?_ <;> (simp only [Q.mul]; grind)
    rw [e, tdQ_mul (by omega) hp] at hm
    exact hpq hm
  have key : ∃ e : Int, (e = R ∨ e = 0 - R) ∧ e * z = g.pr g * p.pr p := by
    have sq : (R * z - g.pr g * p.pr p) * (R * z + g.pr g * p.pr p) = 0 := by
      have : (R * z - g.pr g * p.pr p) * (R * z + g.pr g * p.pr p) = (R * R) * (z * z) - p.pr p * (g.pr g * g.pr g * p.pr p) := by grind
      rw [this, hR, ← own]
      grind
    rcases Int.mul_eq_zero.mp sq with w | w
    · exact ⟨R, .inl rfl, by omega⟩
    · refine ⟨0 - R, .inr rfl, ?_⟩
      have : (0 - R) * z = 0 - R * z := by grind
      omega
  obtain ⟨e, he, ee⟩ := key
  have zs : Q.mul z (cmb e (p.pr p) p q) = Q.mul (2 * p.pr p * p.pr g) g := by
    have qa := congrArg Q.a ez
    have qb := congrArg Q.b ez
    have qc := congrArg Q.c ez
    have qd := congrArg Q.d ez
    simp only [Q.mul, Q.mir] at qa qb qc qd
    generalize p.pr p = P at *
    generalize g.pr g = G at *
    generalize p.pr g = m at *
    have st : ∀ {x y w : Int}, G * x - 2 * m * y = z * w → z * (e * x - P * w) = 2 * P * m * y := fun {x y w} h => by
      have : z * (e * x - P * w) = (e * z) * x - P * (z * w) := by grind
      rw [this, ee, ← h]
      grind
    refine Q.ext ?_ ?_ ?_ ?_
    · simp only [Q.mul, cmb]; exact st qa
    · simp only [Q.mul, cmb]; exact st qb
    · simp only [Q.mul, cmb]; exact st qc
    · simp only [Q.mul, cmb]; exact st qd
  have k0 : 2 * p.pr p * p.pr g ≠ 0 := Int.mul_ne_zero (by omega) n0
  have ps : 0 < (cmb e (p.pr p) p q).pr (cmb e (p.pr p) p q) := by
    have h1 : (Q.mul z (cmb e (p.pr p) p q)).pr (Q.mul z (cmb e (p.pr p) p q)) = (Q.mul (2 * p.pr p * p.pr g) g).pr (Q.mul (2 * p.pr p * p.pr g) g) := by rw [zs]
    rw [pr_mulL, pr_mulR, pr_mulL, pr_mulR, ← Int.mul_assoc, ← Int.mul_assoc] at h1
    generalize 2 * p.pr p * p.pr g = K at *
    have kk : 0 < K * K * g.pr g := Int.mul_pos (by have := @sq_nn K; have : K * K ≠ 0 := Int.mul_ne_zero k0 k0; omega) pg
    rw [← h1] at kk
    generalize (cmb e (p.pr p) p q).pr (cmb e (p.pr p) p q) = s at *
    have zz := @sq_nn z
    rcases Int.lt_trichotomy 0 s with w | w | w
    · exact w
    · rw [← w] at kk; simp at kk
    · have := Int.mul_nonpos_of_nonneg_of_nonpos zz (show s ≤ 0 by omega)
      omega
  refine ⟨e, he, ps, ?_⟩
  rw [← tdQ_scale hz ps, zs]
  exact tdQ_mul k0 hg
end

end Lq

namespace Lq
open PySem PySem.Spec PyProof.Rows L2 Cm

theorem sm2 : smB 2 = true := Bd.two.sm (by decide)
theorem sm1 : smB 1 = true := Bd.one.sm (by decide)
theorem z20 : ((2 : Int) == 0) = false := rfl
inductive RootIs (N : Int) : D → Prop where
  | yes (r : Int) : 0 ≤ r → r * r = N → RootIs N (.int r)
  | no : (∀ r : Int, r * r ≠ N) → RootIs N .non
theorem sq_lt {a b : Int} (ha : 0 ≤ a) (h : a < b) : a * a < b * b := by
  have h1 : a * a ≤ a * b := Int.mul_le_mul_of_nonneg_left (Int.le_of_lt h) ha
  have h2 : a * b < b * b := Int.mul_lt_mul_of_pos_right h (by omega)
  omega
theorem sq_le {a b : Int} (ha : 0 ≤ a) (h : a ≤ b) : a * a ≤ b * b := by
  have h1 : a * a ≤ a * b := Int.mul_le_mul_of_nonneg_left h ha
  have h2 : a * b ≤ b * b := Int.mul_le_mul_of_nonneg_right h (by omega)
  omega
theorem sq_inj {a b : Int} (ha : 0 ≤ a) (hb : 0 ≤ b) (h : a * a = b * b) : a = b := by
  rcases Int.lt_trichotomy a b with w | w | w
  · have := sq_lt ha w; omega
  · exact w
  · have := sq_lt hb w; omega
theorem abs_sq {r : Int} : (r.natAbs : Int) * (r.natAbs : Int) = r * r := by
  rcases Int.natAbs_eq r with e | e
  · rw [← e]
  · generalize (r.natAbs : Int) = s at *
    rw [e]; grind
theorem RootIs.uniq {N : Int} {d d' : D} (h : RootIs N d) (h' : RootIs N d') : d = d' := by
  cases h with
  | yes r h1 h2 =>
    cases h' with
    | yes r' h1' h2' => rw [sq_inj h1 h1' (h2.trans h2'.symm)]
    | no n => exact absurd h2 (n r)
  | no n =>
    cases h' with
    | yes r' h1' h2' => exact absurd h2' (n r')
    | no _ => rfl
theorem root_of_lo {N r : Int} (h0 : 0 ≤ r) (h1 : r * r ≤ N) (h2 : N < (r + 1) * (r + 1)) : RootIs N (if r * r = N then .int r else .non) := by
  split
  · rename_i e
    exact .yes r h0 e
  · rename_i e
    refine .no fun x hx => ?_
    rw [← abs_sq] at hx
    have hn : 0 ≤ (x.natAbs : Int) := by omega
    generalize (x.natAbs : Int) = y at *
    rcases Int.lt_trichotomy y r with w | w | w
    · have := sq_lt hn w; omega
    · subst w; exact e hx
    · have := sq_le (show 0 ≤ r + 1 by omega) (show r + 1 ≤ y by omega); omega
def rtT : E := (.cmp .lt (.bin .add (.arg 1) (.lit (.int 1))) (.arg 2))
def rtB : T := (.seq (.asg (.nm 3) (.bin .fdiv (.bin .add (.arg 1) (.arg 2)) (.lit (.int 2)))) (.ite (.cmp .le (.bin .mul (.arg 3) (.arg 3)) (.arg 0)) (.asg (.nm 1) (.var 3)) (.asg (.nm 2) (.var 3))))
theorem bd_btw {k : Nat} {a b : Int} (h : Bd k b) (h0 : 0 ≤ a) (h1 : a ≤ b) : Bd k a := Nat.lt_of_le_of_lt (by omega) h
section
variable {n : Nat} {S : Sto} {c : Ce} {w : Nat}
theorem rt_loop {N : Int} : ∀ (m : Nat) (lo hi : Int) (s3 : Sl), 0 ≤ lo → lo < hi → lo * lo ≤ N → N < hi * hi → Bd 1000 hi → (hi - lo).natAbs < m →
    ∃ (r hi' : Int) (s3' : Sl), whlL (evE LW c rtT) (evT LW c w rtB) m [.d (.int N), .d (.int lo), .d (.int hi), s3] S = some (.nx, [.d (.int N), .d (.int r), .d (.int hi'), s3'], S) ∧ 0 ≤ r ∧ r * r ≤ N ∧ N < (r + 1) * (r + 1) ∧ Bd 1000 r
  | 0, _, _, _, _, _, _, _, _, h => absurd h (Nat.not_lt_zero _)
  | m + 1, lo, hi, s3, h0, h1, h2, h3, hb, hm => by
    by_cases ht : lo + 1 < hi
    · have d : decide (lo + 1 < hi) = true := decide_eq_true ht
      have t1 : evE LW c rtT [.d (.int N), .d (.int lo), .d (.int hi), s3] S = some (.v (.d (.bl true)), S) := by
        simp only [rtT, d, e_var, kV_d, kV_r, kVr_l, kVr_f, e_arg, kA_d, kA_r, e_lit, pk_d, pk_r, kPr_l, kPr_f, outD_s, outB_s, e_bin, kBin1_v, kBin1_r, kBin2_v, kBin2_r, kBin3_s, e_cmp, kCmp1_v, kCmp1_r, kCmp2_v, kCmp2_r, kCmp3_s, e_idx, kIdx1_v, kIdx1_r, kIdx2_v, kIdx2_r, kIdx3_s, e_neg, kNeg1_v, kNeg1_r, e_tru, kTru1_v, kTru1_r, kNeg2_s, kTru2_s, e_isc, kIsc1_v, kIsc1_r, kIsc2_s, e_and, kAnd_t, kAnd_f, kAnd_r, e_or, kOr_t, kOr_f, kOr_r, e_not, kNot_t, kNot_f, kNot_r, e_ifx, kIfx_t, kIfx_f, kIfx_r, e_chn, kCh1_v, kCh1_r, kCh2_v, kCh2_r, kChP_s, kChB_t, kChB_f, kCh3_v, kCh3_r, kCh4_s, e_nil, e_cons, kCs1_v, kCs1_r, kCs2_v, kCs2_r, e_tup, kTu1_v, kTu1_r, kTu2_0, kTu2_1, kTu2_2, kTu2_3, kTu2_4, kTu2_5, kTu2_6, kTu2_7, kTu2_8, e_lst, kLi1_v, kLi1_r, kLi2_0, kLi2_1, kLi2_2, kLi2_3, kLi2_4, kLi2_5, kLi2_6, kLi2_7, kLi2_8, datL, Option.map_some, e_call, kCa1_v, kCa1_r, kCa2_o, kCa2_r, e_blt, kBl1_v, kBl1_r, kBl2_s, pl_nil, pl_cons, kPL_s, e_rng1, kR1_v, e_rng2, kR2_v, kR2_r, kR2b_v, e_comp, kC1_v, kC1_r, cl_nil, cl_cons, kCL_y, kCL_n, s_step, kS1_s, kS2_t, kS2_f, kS3_v, t_seq, kSq_n, kSq_t, kSq_r, kSq_b, t_nop, t_asg, kAs1_v, kAs1_r, kAs2_s, t_par, kPa1_v, kPa2_v, par_d, t_ret, kRt_v, kRt_r, t_exp, kEx_v, kEx_r, t_ite, kIt_t, kIt_f, kIt_r, t_rse, t_brk, t_try, kTr_r, kTr_n, kTr_t, t_for, kF1_v, kF1_r, kF2_s, fl_nil, fl_cons, kFL_n, kFL_t, kFL_r, kFL_b, s_for, kSF_s, List.getElem?_cons_zero, List.getElem?_cons_succ, List.set_cons_zero, List.set_cons_succ, List.length_cons, List.length_nil, List.cons_append, List.nil_append, b_add, b_sub, b_mul, b_fdiv, b_mod, c_lt, c_le, c_gt, c_ge, c_eq, c_ne, c_eqi, c_nei, l_tup, l_list, l_abs, sq_t, sq_l, i_t1_0, i_l1_0, i_t2_0, i_l2_0, i_t2_1, i_l2_1, i_t3_0, i_l3_0, i_t3_1, i_l3_1, i_t3_2, i_l3_2, i_t4_0, i_l4_0, i_t4_1, i_l4_1, i_t4_2, i_l4_2, i_t4_3, i_l4_3, i_t5_0, i_l5_0, i_t5_1, i_l5_1, i_t5_2, i_l5_2, i_t5_3, i_l5_3, i_t5_4, i_l5_4, i_t6_0, i_l6_0, i_t6_1, i_l6_1, i_t6_2, i_l6_2, i_t6_3, i_l6_3, i_t6_4, i_l6_4, i_t6_5, i_l6_5, bt_nm, wp_nil, wp_cons, List.replicate, Nat.reduceSub, List.append_nil, Int.reduceLT, Int.reduceLE, Int.reduceBEq, Int.reduceSub, decide_true, decide_false, Bool.not_true, Bool.not_false, Bool.not_not, e_rz, e_rz1, e_ok, e_nx, isc_e, ln0, ln1, ln2, ln3, ln4, lt2, lt4, if_true, if_false, reduceIte, Bool.false_eq_true, bt_nil_t, bt_cons_t, bt_nil_l, bt_cons_l, Option.bind, e_okC, t_asgM, kM1_l, kM2_t, kM1_r, nr_nil, nr_d, nr_u, nr_r, bq_0, bq_0a, bl_1, bl_1z, bl_2, bl_2z, bl_21, bl_c1, bl_c1z, bl_c1y, bl_c1x, bl_c2, bl_c2z, bl_c21, g_1, g_2, g_21, s_1, s_2, s_21, t_apd2, kAp3_u, kAp4_t, kP1_v, kP1_r, kP2_l, kP3_v, kP3_r, e_ok1, e_nx1, e_ok2, e_rz2, e_ok1c, e_ok2c, kC2_u, kC3_t, e_dsel, kD1_v, kD2_v, e_mth, kMt1_v, kMt2_l, kMt3_v, kMt4_s, l_any4, l_all4, ist_s0, ist_i0, tr_bl, is_nn, is_bn, is_in, is_tn, is_ln, is_sn, nb0, nc0, nb1, nc1, nb2, nc2, nb3, nc3, nb4, nc4, nb5, nc5, nb6, nc6, nb7, nc7, nb8, nc8, nb9, nc9, nb10, nc10, nb11, nc11, nb12, nc12, nb13, nc13, nb14, nc14, nb15, nc15, nb16, nc16, nb17, nc17, nb18, nc18, nb19, nc19, nb20, nc20, nb21, nc21, nb22, nc22, nb23, nc23, nb24, nc24, nb25, nc25, nb26, nc26, nb27, nc27, nb28, nc28, nb29, nc29, nb30, nc30, nb31, nc31, nb32, nc32, nb33, nc33, nb34, nc34, nb35, nc35, nb36, nc36, nb37, nc37, nb38, nc38, nb39, nc39, nb40, nc40, r1_0, r1_1, r1_2, r1_3, r1_4, r1_5, r1_6, rgl_1, rgl_2, rgl_3, rgl_4, md_1, md_2, md_3, md_4, qt0, qt1, qt2, qt3, Int.reduceMul, Int.reduceNeg, Int.reduceAdd, Nat.add_zero, Nat.reduceAdd, Bool.true_and, Bool.and_true, Bool.false_and, Bool.and_false, Bool.or_false, Bool.false_or]
      have fd : (lo + hi).fdiv 2 = (lo + hi) / 2 := Int.fdiv_eq_ediv_of_nonneg _ (by decide)
      have bf : binD .fdiv (.int (lo + hi)) (.int 2) = some (.int ((lo + hi) / 2)) := by rw [b_fdiv sm2 z20, fd]
      generalize hq : (lo + hi) / 2 = md at *
      have m1 : lo < md := by omega
      have m2 : md < hi := by omega
      have bm : Bd 1000 md := bd_btw hb (by omega) (by omega)
      have sm := bm.sm (show 1000 ≤ 8000 by decide)
      by_cases hc : md * md ≤ N
      · have dc : decide (md * md ≤ N) = true := decide_eq_true hc
        have t2 : evT LW c w rtB [.d (.int N), .d (.int lo), .d (.int hi), s3] S = some (.nx, [.d (.int N), .d (.int md), .d (.int hi), .d (.int md)], S) := by
          simp only [rtB, bf, b_mul sm sm, dc, e_var, kV_d, kV_r, kVr_l, kVr_f, e_arg, kA_d, kA_r, e_lit, pk_d, pk_r, kPr_l, kPr_f, outD_s, outB_s, e_bin, kBin1_v, kBin1_r, kBin2_v, kBin2_r, kBin3_s, e_cmp, kCmp1_v, kCmp1_r, kCmp2_v, kCmp2_r, kCmp3_s, e_idx, kIdx1_v, kIdx1_r, kIdx2_v, kIdx2_r, kIdx3_s, e_neg, kNeg1_v, kNeg1_r, e_tru, kTru1_v, kTru1_r, kNeg2_s, kTru2_s, e_isc, kIsc1_v, kIsc1_r, kIsc2_s, e_and, kAnd_t, kAnd_f, kAnd_r, e_or, kOr_t, kOr_f, kOr_r, e_not, kNot_t, kNot_f, kNot_r, e_ifx, kIfx_t, kIfx_f, kIfx_r, e_chn, kCh1_v, kCh1_r, kCh2_v, kCh2_r, kChP_s, kChB_t, kChB_f, kCh3_v, kCh3_r, kCh4_s, e_nil, e_cons, kCs1_v, kCs1_r, kCs2_v, kCs2_r, e_tup, kTu1_v, kTu1_r, kTu2_0, kTu2_1, kTu2_2, kTu2_3, kTu2_4, kTu2_5, kTu2_6, kTu2_7, kTu2_8, e_lst, kLi1_v, kLi1_r, kLi2_0, kLi2_1, kLi2_2, kLi2_3, kLi2_4, kLi2_5, kLi2_6, kLi2_7, kLi2_8, datL, Option.map_some, e_call, kCa1_v, kCa1_r, kCa2_o, kCa2_r, e_blt, kBl1_v, kBl1_r, kBl2_s, pl_nil, pl_cons, kPL_s, e_rng1, kR1_v, e_rng2, kR2_v, kR2_r, kR2b_v, e_comp, kC1_v, kC1_r, cl_nil, cl_cons, kCL_y, kCL_n, s_step, kS1_s, kS2_t, kS2_f, kS3_v, t_seq, kSq_n, kSq_t, kSq_r, kSq_b, t_nop, t_asg, kAs1_v, kAs1_r, kAs2_s, t_par, kPa1_v, kPa2_v, par_d, t_ret, kRt_v, kRt_r, t_exp, kEx_v, kEx_r, t_ite, kIt_t, kIt_f, kIt_r, t_rse, t_brk, t_try, kTr_r, kTr_n, kTr_t, t_for, kF1_v, kF1_r, kF2_s, fl_nil, fl_cons, kFL_n, kFL_t, kFL_r, kFL_b, s_for, kSF_s, List.getElem?_cons_zero, List.getElem?_cons_succ, List.set_cons_zero, List.set_cons_succ, List.length_cons, List.length_nil, List.cons_append, List.nil_append, b_add, b_sub, b_mul, b_fdiv, b_mod, c_lt, c_le, c_gt, c_ge, c_eq, c_ne, c_eqi, c_nei, l_tup, l_list, l_abs, sq_t, sq_l, i_t1_0, i_l1_0, i_t2_0, i_l2_0, i_t2_1, i_l2_1, i_t3_0, i_l3_0, i_t3_1, i_l3_1, i_t3_2, i_l3_2, i_t4_0, i_l4_0, i_t4_1, i_l4_1, i_t4_2, i_l4_2, i_t4_3, i_l4_3, i_t5_0, i_l5_0, i_t5_1, i_l5_1, i_t5_2, i_l5_2, i_t5_3, i_l5_3, i_t5_4, i_l5_4, i_t6_0, i_l6_0, i_t6_1, i_l6_1, i_t6_2, i_l6_2, i_t6_3, i_l6_3, i_t6_4, i_l6_4, i_t6_5, i_l6_5, bt_nm, wp_nil, wp_cons, List.replicate, Nat.reduceSub, List.append_nil, Int.reduceLT, Int.reduceLE, Int.reduceBEq, Int.reduceSub, decide_true, decide_false, Bool.not_true, Bool.not_false, Bool.not_not, e_rz, e_rz1, e_ok, e_nx, isc_e, ln0, ln1, ln2, ln3, ln4, lt2, lt4, if_true, if_false, reduceIte, Bool.false_eq_true, bt_nil_t, bt_cons_t, bt_nil_l, bt_cons_l, Option.bind, e_okC, t_asgM, kM1_l, kM2_t, kM1_r, nr_nil, nr_d, nr_u, nr_r, bq_0, bq_0a, bl_1, bl_1z, bl_2, bl_2z, bl_21, bl_c1, bl_c1z, bl_c1y, bl_c1x, bl_c2, bl_c2z, bl_c21, g_1, g_2, g_21, s_1, s_2, s_21, t_apd2, kAp3_u, kAp4_t, kP1_v, kP1_r, kP2_l, kP3_v, kP3_r, e_ok1, e_nx1, e_ok2, e_rz2, e_ok1c, e_ok2c, kC2_u, kC3_t, e_dsel, kD1_v, kD2_v, e_mth, kMt1_v, kMt2_l, kMt3_v, kMt4_s, l_any4, l_all4, ist_s0, ist_i0, tr_bl, is_nn, is_bn, is_in, is_tn, is_ln, is_sn, nb0, nc0, nb1, nc1, nb2, nc2, nb3, nc3, nb4, nc4, nb5, nc5, nb6, nc6, nb7, nc7, nb8, nc8, nb9, nc9, nb10, nc10, nb11, nc11, nb12, nc12, nb13, nc13, nb14, nc14, nb15, nc15, nb16, nc16, nb17, nc17, nb18, nc18, nb19, nc19, nb20, nc20, nb21, nc21, nb22, nc22, nb23, nc23, nb24, nc24, nb25, nc25, nb26, nc26, nb27, nc27, nb28, nc28, nb29, nc29, nb30, nc30, nb31, nc31, nb32, nc32, nb33, nc33, nb34, nc34, nb35, nc35, nb36, nc36, nb37, nc37, nb38, nc38, nb39, nc39, nb40, nc40, r1_0, r1_1, r1_2, r1_3, r1_4, r1_5, r1_6, rgl_1, rgl_2, rgl_3, rgl_4, md_1, md_2, md_3, md_4, qt0, qt1, qt2, qt3, Int.reduceMul, Int.reduceNeg, Int.reduceAdd, Nat.add_zero, Nat.reduceAdd, Bool.true_and, Bool.and_true, Bool.false_and, Bool.and_false, Bool.or_false, Bool.false_or]
        obtain ⟨r, hi', s3', z, z1⟩ := rt_loop m md hi (.d (.int md)) (by omega) m2 hc h3 hb (by omega)
        refine ⟨r, hi', s3', ?_, z1⟩
        simp only [whlL, t1, t2]
        exact z
      · have dc : decide (md * md ≤ N) = false := decide_eq_false hc
        have t2 : evT LW c w rtB [.d (.int N), .d (.int lo), .d (.int hi), s3] S = some (.nx, [.d (.int N), .d (.int lo), .d (.int md), .d (.int md)], S) := by
          simp only [rtB, bf, b_mul sm sm, dc, e_var, kV_d, kV_r, kVr_l, kVr_f, e_arg, kA_d, kA_r, e_lit, pk_d, pk_r, kPr_l, kPr_f, outD_s, outB_s, e_bin, kBin1_v, kBin1_r, kBin2_v, kBin2_r, kBin3_s, e_cmp, kCmp1_v, kCmp1_r, kCmp2_v, kCmp2_r, kCmp3_s, e_idx, kIdx1_v, kIdx1_r, kIdx2_v, kIdx2_r, kIdx3_s, e_neg, kNeg1_v, kNeg1_r, e_tru, kTru1_v, kTru1_r, kNeg2_s, kTru2_s, e_isc, kIsc1_v, kIsc1_r, kIsc2_s, e_and, kAnd_t, kAnd_f, kAnd_r, e_or, kOr_t, kOr_f, kOr_r, e_not, kNot_t, kNot_f, kNot_r, e_ifx, kIfx_t, kIfx_f, kIfx_r, e_chn, kCh1_v, kCh1_r, kCh2_v, kCh2_r, kChP_s, kChB_t, kChB_f, kCh3_v, kCh3_r, kCh4_s, e_nil, e_cons, kCs1_v, kCs1_r, kCs2_v, kCs2_r, e_tup, kTu1_v, kTu1_r, kTu2_0, kTu2_1, kTu2_2, kTu2_3, kTu2_4, kTu2_5, kTu2_6, kTu2_7, kTu2_8, e_lst, kLi1_v, kLi1_r, kLi2_0, kLi2_1, kLi2_2, kLi2_3, kLi2_4, kLi2_5, kLi2_6, kLi2_7, kLi2_8, datL, Option.map_some, e_call, kCa1_v, kCa1_r, kCa2_o, kCa2_r, e_blt, kBl1_v, kBl1_r, kBl2_s, pl_nil, pl_cons, kPL_s, e_rng1, kR1_v, e_rng2, kR2_v, kR2_r, kR2b_v, e_comp, kC1_v, kC1_r, cl_nil, cl_cons, kCL_y, kCL_n, s_step, kS1_s, kS2_t, kS2_f, kS3_v, t_seq, kSq_n, kSq_t, kSq_r, kSq_b, t_nop, t_asg, kAs1_v, kAs1_r, kAs2_s, t_par, kPa1_v, kPa2_v, par_d, t_ret, kRt_v, kRt_r, t_exp, kEx_v, kEx_r, t_ite, kIt_t, kIt_f, kIt_r, t_rse, t_brk, t_try, kTr_r, kTr_n, kTr_t, t_for, kF1_v, kF1_r, kF2_s, fl_nil, fl_cons, kFL_n, kFL_t, kFL_r, kFL_b, s_for, kSF_s, List.getElem?_cons_zero, List.getElem?_cons_succ, List.set_cons_zero, List.set_cons_succ, List.length_cons, List.length_nil, List.cons_append, List.nil_append, b_add, b_sub, b_mul, b_fdiv, b_mod, c_lt, c_le, c_gt, c_ge, c_eq, c_ne, c_eqi, c_nei, l_tup, l_list, l_abs, sq_t, sq_l, i_t1_0, i_l1_0, i_t2_0, i_l2_0, i_t2_1, i_l2_1, i_t3_0, i_l3_0, i_t3_1, i_l3_1, i_t3_2, i_l3_2, i_t4_0, i_l4_0, i_t4_1, i_l4_1, i_t4_2, i_l4_2, i_t4_3, i_l4_3, i_t5_0, i_l5_0, i_t5_1, i_l5_1, i_t5_2, i_l5_2, i_t5_3, i_l5_3, i_t5_4, i_l5_4, i_t6_0, i_l6_0, i_t6_1, i_l6_1, i_t6_2, i_l6_2, i_t6_3, i_l6_3, i_t6_4, i_l6_4, i_t6_5, i_l6_5, bt_nm, wp_nil, wp_cons, List.replicate, Nat.reduceSub, List.append_nil, Int.reduceLT, Int.reduceLE, Int.reduceBEq, Int.reduceSub, decide_true, decide_false, Bool.not_true, Bool.not_false, Bool.not_not, e_rz, e_rz1, e_ok, e_nx, isc_e, ln0, ln1, ln2, ln3, ln4, lt2, lt4, if_true, if_false, reduceIte, Bool.false_eq_true, bt_nil_t, bt_cons_t, bt_nil_l, bt_cons_l, Option.bind, e_okC, t_asgM, kM1_l, kM2_t, kM1_r, nr_nil, nr_d, nr_u, nr_r, bq_0, bq_0a, bl_1, bl_1z, bl_2, bl_2z, bl_21, bl_c1, bl_c1z, bl_c1y, bl_c1x, bl_c2, bl_c2z, bl_c21, g_1, g_2, g_21, s_1, s_2, s_21, t_apd2, kAp3_u, kAp4_t, kP1_v, kP1_r, kP2_l, kP3_v, kP3_r, e_ok1, e_nx1, e_ok2, e_rz2, e_ok1c, e_ok2c, kC2_u, kC3_t, e_dsel, kD1_v, kD2_v, e_mth, kMt1_v, kMt2_l, kMt3_v, kMt4_s, l_any4, l_all4, ist_s0, ist_i0, tr_bl, is_nn, is_bn, is_in, is_tn, is_ln, is_sn, nb0, nc0, nb1, nc1, nb2, nc2, nb3, nc3, nb4, nc4, nb5, nc5, nb6, nc6, nb7, nc7, nb8, nc8, nb9, nc9, nb10, nc10, nb11, nc11, nb12, nc12, nb13, nc13, nb14, nc14, nb15, nc15, nb16, nc16, nb17, nc17, nb18, nc18, nb19, nc19, nb20, nc20, nb21, nc21, nb22, nc22, nb23, nc23, nb24, nc24, nb25, nc25, nb26, nc26, nb27, nc27, nb28, nc28, nb29, nc29, nb30, nc30, nb31, nc31, nb32, nc32, nb33, nc33, nb34, nc34, nb35, nc35, nb36, nc36, nb37, nc37, nb38, nc38, nb39, nc39, nb40, nc40, r1_0, r1_1, r1_2, r1_3, r1_4, r1_5, r1_6, rgl_1, rgl_2, rgl_3, rgl_4, md_1, md_2, md_3, md_4, qt0, qt1, qt2, qt3, Int.reduceMul, Int.reduceNeg, Int.reduceAdd, Nat.add_zero, Nat.reduceAdd, Bool.true_and, Bool.and_true, Bool.false_and, Bool.and_false, Bool.or_false, Bool.false_or]
        obtain ⟨r, hi', s3', z, z1⟩ := rt_loop m lo md (.d (.int md)) h0 m1 h2 (by omega) bm (by omega)
        refine ⟨r, hi', s3', ?_, z1⟩
        simp only [whlL, t1, t2]
        exact z
    · have d : decide (lo + 1 < hi) = false := decide_eq_false ht
      have t1 : evE LW c rtT [.d (.int N), .d (.int lo), .d (.int hi), s3] S = some (.v (.d (.bl false)), S) := by
        simp only [rtT, d, e_var, kV_d, kV_r, kVr_l, kVr_f, e_arg, kA_d, kA_r, e_lit, pk_d, pk_r, kPr_l, kPr_f, outD_s, outB_s, e_bin, kBin1_v, kBin1_r, kBin2_v, kBin2_r, kBin3_s, e_cmp, kCmp1_v, kCmp1_r, kCmp2_v, kCmp2_r, kCmp3_s, e_idx, kIdx1_v, kIdx1_r, kIdx2_v, kIdx2_r, kIdx3_s, e_neg, kNeg1_v, kNeg1_r, e_tru, kTru1_v, kTru1_r, kNeg2_s, kTru2_s, e_isc, kIsc1_v, kIsc1_r, kIsc2_s, e_and, kAnd_t, kAnd_f, kAnd_r, e_or, kOr_t, kOr_f, kOr_r, e_not, kNot_t, kNot_f, kNot_r, e_ifx, kIfx_t, kIfx_f, kIfx_r, e_chn, kCh1_v, kCh1_r, kCh2_v, kCh2_r, kChP_s, kChB_t, kChB_f, kCh3_v, kCh3_r, kCh4_s, e_nil, e_cons, kCs1_v, kCs1_r, kCs2_v, kCs2_r, e_tup, kTu1_v, kTu1_r, kTu2_0, kTu2_1, kTu2_2, kTu2_3, kTu2_4, kTu2_5, kTu2_6, kTu2_7, kTu2_8, e_lst, kLi1_v, kLi1_r, kLi2_0, kLi2_1, kLi2_2, kLi2_3, kLi2_4, kLi2_5, kLi2_6, kLi2_7, kLi2_8, datL, Option.map_some, e_call, kCa1_v, kCa1_r, kCa2_o, kCa2_r, e_blt, kBl1_v, kBl1_r, kBl2_s, pl_nil, pl_cons, kPL_s, e_rng1, kR1_v, e_rng2, kR2_v, kR2_r, kR2b_v, e_comp, kC1_v, kC1_r, cl_nil, cl_cons, kCL_y, kCL_n, s_step, kS1_s, kS2_t, kS2_f, kS3_v, t_seq, kSq_n, kSq_t, kSq_r, kSq_b, t_nop, t_asg, kAs1_v, kAs1_r, kAs2_s, t_par, kPa1_v, kPa2_v, par_d, t_ret, kRt_v, kRt_r, t_exp, kEx_v, kEx_r, t_ite, kIt_t, kIt_f, kIt_r, t_rse, t_brk, t_try, kTr_r, kTr_n, kTr_t, t_for, kF1_v, kF1_r, kF2_s, fl_nil, fl_cons, kFL_n, kFL_t, kFL_r, kFL_b, s_for, kSF_s, List.getElem?_cons_zero, List.getElem?_cons_succ, List.set_cons_zero, List.set_cons_succ, List.length_cons, List.length_nil, List.cons_append, List.nil_append, b_add, b_sub, b_mul, b_fdiv, b_mod, c_lt, c_le, c_gt, c_ge, c_eq, c_ne, c_eqi, c_nei, l_tup, l_list, l_abs, sq_t, sq_l, i_t1_0, i_l1_0, i_t2_0, i_l2_0, i_t2_1, i_l2_1, i_t3_0, i_l3_0, i_t3_1, i_l3_1, i_t3_2, i_l3_2, i_t4_0, i_l4_0, i_t4_1, i_l4_1, i_t4_2, i_l4_2, i_t4_3, i_l4_3, i_t5_0, i_l5_0, i_t5_1, i_l5_1, i_t5_2, i_l5_2, i_t5_3, i_l5_3, i_t5_4, i_l5_4, i_t6_0, i_l6_0, i_t6_1, i_l6_1, i_t6_2, i_l6_2, i_t6_3, i_l6_3, i_t6_4, i_l6_4, i_t6_5, i_l6_5, bt_nm, wp_nil, wp_cons, List.replicate, Nat.reduceSub, List.append_nil, Int.reduceLT, Int.reduceLE, Int.reduceBEq, Int.reduceSub, decide_true, decide_false, Bool.not_true, Bool.not_false, Bool.not_not, e_rz, e_rz1, e_ok, e_nx, isc_e, ln0, ln1, ln2, ln3, ln4, lt2, lt4, if_true, if_false, reduceIte, Bool.false_eq_true, bt_nil_t, bt_cons_t, bt_nil_l, bt_cons_l, Option.bind, e_okC, t_asgM, kM1_l, kM2_t, kM1_r, nr_nil, nr_d, nr_u, nr_r, bq_0, bq_0a, bl_1, bl_1z, bl_2, bl_2z, bl_21, bl_c1, bl_c1z, bl_c1y, bl_c1x, bl_c2, bl_c2z, bl_c21, g_1, g_2, g_21, s_1, s_2, s_21, t_apd2, kAp3_u, kAp4_t, kP1_v, kP1_r, kP2_l, kP3_v, kP3_r, e_ok1, e_nx1, e_ok2, e_rz2, e_ok1c, e_ok2c, kC2_u, kC3_t, e_dsel, kD1_v, kD2_v, e_mth, kMt1_v, kMt2_l, kMt3_v, kMt4_s, l_any4, l_all4, ist_s0, ist_i0, tr_bl, is_nn, is_bn, is_in, is_tn, is_ln, is_sn, nb0, nc0, nb1, nc1, nb2, nc2, nb3, nc3, nb4, nc4, nb5, nc5, nb6, nc6, nb7, nc7, nb8, nc8, nb9, nc9, nb10, nc10, nb11, nc11, nb12, nc12, nb13, nc13, nb14, nc14, nb15, nc15, nb16, nc16, nb17, nc17, nb18, nc18, nb19, nc19, nb20, nc20, nb21, nc21, nb22, nc22, nb23, nc23, nb24, nc24, nb25, nc25, nb26, nc26, nb27, nc27, nb28, nc28, nb29, nc29, nb30, nc30, nb31, nc31, nb32, nc32, nb33, nc33, nb34, nc34, nb35, nc35, nb36, nc36, nb37, nc37, nb38, nc38, nb39, nc39, nb40, nc40, r1_0, r1_1, r1_2, r1_3, r1_4, r1_5, r1_6, rgl_1, rgl_2, rgl_3, rgl_4, md_1, md_2, md_3, md_4, qt0, qt1, qt2, qt3, Int.reduceMul, Int.reduceNeg, Int.reduceAdd, Nat.add_zero, Nat.reduceAdd, Bool.true_and, Bool.and_true, Bool.false_and, Bool.and_false, Bool.or_false, Bool.false_or]
      have e : hi = lo + 1 := by omega
      refine ⟨lo, hi, s3, ?_, h0, h2, by rw [← e]; exact h3, bd_btw hb h0 (by omega)⟩
      simp only [whlL, t1]
theorem v_root {N : Int} (h0 : 0 ≤ N) (hb : Bd 990 N) : ∃ d, RootIs N d ∧ callE LW Pr (n + 1) 2 [.d (.int N)] S = some (.ok d, S) := by
  have b1 : Bd 1000 (N + 1) := (Bd.add hb Bd.one).mono (by decide)
  obtain ⟨r, hi', s3', z, z1, z2, z3, z4⟩ := rt_loop (S := S) (c := callE LW Pr n) (w := List.length S) (N := N) LF 0 (N + 1) .un (by decide) (by omega) (by omega) (by
    have : 1 * (N + 1) ≤ (N + 1) * (N + 1) := Int.mul_le_mul_of_nonneg_right (by omega) (by omega)
    omega) b1 (by
    rw [Int.sub_zero]
    exact b1.mono (show 1000 ≤ 9000 by decide))
  refine ⟨_, root_of_lo z1 z2 z3, ?_⟩
  have z : evT LW (callE LW Pr n) (List.length S) (.whl rtT rtB) [.d (.int N), .d (.int 0), .d (.int (N + 1)), .un] S = some (.nx, [.d (.int N), .d (.int r), .d (.int hi'), s3'], S) := z
  have e : i_root_of = .seq (.ite (.cmp .lt (.arg 0) (.lit (.int 0))) (.ret (.lit (.non))) .nop) (.seq (.asg (.nm 1) (.lit (.int 0))) (.seq (.asg (.nm 2) (.bin .add (.arg 0) (.lit (.int 1)))) (.seq (.whl rtT rtB) (.ret (.ifx (.cmp .eq (.bin .mul (.arg 1) (.arg 1)) (.arg 0)) (.var 1) (.lit (.non))))))) := rfl
  have d : decide (N < 0) = false := decide_eq_false (by omega)
  have sm := z4.sm (show 1000 ≤ 8000 by decide)
  by_cases hc : r * r = N
  · have bc : (r * r == N) = true := beq_iff_eq.mpr hc
    rw [if_pos hc]
    simp only [u_root_of, e, d, z, b_mul sm sm, bc, e_var, kV_d, kV_r, kVr_l, kVr_f, e_arg, kA_d, kA_r, e_lit, pk_d, pk_r, kPr_l, kPr_f, outD_s, outB_s, e_bin, kBin1_v, kBin1_r, kBin2_v, kBin2_r, kBin3_s, e_cmp, kCmp1_v, kCmp1_r, kCmp2_v, kCmp2_r, kCmp3_s, e_idx, kIdx1_v, kIdx1_r, kIdx2_v, kIdx2_r, kIdx3_s, e_neg, kNeg1_v, kNeg1_r, e_tru, kTru1_v, kTru1_r, kNeg2_s, kTru2_s, e_isc, kIsc1_v, kIsc1_r, kIsc2_s, e_and, kAnd_t, kAnd_f, kAnd_r, e_or, kOr_t, kOr_f, kOr_r, e_not, kNot_t, kNot_f, kNot_r, e_ifx, kIfx_t, kIfx_f, kIfx_r, e_chn, kCh1_v, kCh1_r, kCh2_v, kCh2_r, kChP_s, kChB_t, kChB_f, kCh3_v, kCh3_r, kCh4_s, e_nil, e_cons, kCs1_v, kCs1_r, kCs2_v, kCs2_r, e_tup, kTu1_v, kTu1_r, kTu2_0, kTu2_1, kTu2_2, kTu2_3, kTu2_4, kTu2_5, kTu2_6, kTu2_7, kTu2_8, e_lst, kLi1_v, kLi1_r, kLi2_0, kLi2_1, kLi2_2, kLi2_3, kLi2_4, kLi2_5, kLi2_6, kLi2_7, kLi2_8, datL, Option.map_some, e_call, kCa1_v, kCa1_r, kCa2_o, kCa2_r, e_blt, kBl1_v, kBl1_r, kBl2_s, pl_nil, pl_cons, kPL_s, e_rng1, kR1_v, e_rng2, kR2_v, kR2_r, kR2b_v, e_comp, kC1_v, kC1_r, cl_nil, cl_cons, kCL_y, kCL_n, s_step, kS1_s, kS2_t, kS2_f, kS3_v, t_seq, kSq_n, kSq_t, kSq_r, kSq_b, t_nop, t_asg, kAs1_v, kAs1_r, kAs2_s, t_par, kPa1_v, kPa2_v, par_d, t_ret, kRt_v, kRt_r, t_exp, kEx_v, kEx_r, t_ite, kIt_t, kIt_f, kIt_r, t_rse, t_brk, t_try, kTr_r, kTr_n, kTr_t, t_for, kF1_v, kF1_r, kF2_s, fl_nil, fl_cons, kFL_n, kFL_t, kFL_r, kFL_b, s_for, kSF_s, List.getElem?_cons_zero, List.getElem?_cons_succ, List.set_cons_zero, List.set_cons_succ, List.length_cons, List.length_nil, List.cons_append, List.nil_append, b_add, b_sub, b_mul, b_fdiv, b_mod, c_lt, c_le, c_gt, c_ge, c_eq, c_ne, c_eqi, c_nei, l_tup, l_list, l_abs, sq_t, sq_l, i_t1_0, i_l1_0, i_t2_0, i_l2_0, i_t2_1, i_l2_1, i_t3_0, i_l3_0, i_t3_1, i_l3_1, i_t3_2, i_l3_2, i_t4_0, i_l4_0, i_t4_1, i_l4_1, i_t4_2, i_l4_2, i_t4_3, i_l4_3, i_t5_0, i_l5_0, i_t5_1, i_l5_1, i_t5_2, i_l5_2, i_t5_3, i_l5_3, i_t5_4, i_l5_4, i_t6_0, i_l6_0, i_t6_1, i_l6_1, i_t6_2, i_l6_2, i_t6_3, i_l6_3, i_t6_4, i_l6_4, i_t6_5, i_l6_5, bt_nm, wp_nil, wp_cons, List.replicate, Nat.reduceSub, List.append_nil, Int.reduceLT, Int.reduceLE, Int.reduceBEq, Int.reduceSub, decide_true, decide_false, Bool.not_true, Bool.not_false, Bool.not_not, e_rz, e_rz1, e_ok, e_nx, isc_e, ln0, ln1, ln2, ln3, ln4, lt2, lt4, if_true, if_false, reduceIte, Bool.false_eq_true, bt_nil_t, bt_cons_t, bt_nil_l, bt_cons_l, Option.bind, e_okC, t_asgM, kM1_l, kM2_t, kM1_r, nr_nil, nr_d, nr_u, nr_r, bq_0, bq_0a, bl_1, bl_1z, bl_2, bl_2z, bl_21, bl_c1, bl_c1z, bl_c1y, bl_c1x, bl_c2, bl_c2z, bl_c21, g_1, g_2, g_21, s_1, s_2, s_21, t_apd2, kAp3_u, kAp4_t, kP1_v, kP1_r, kP2_l, kP3_v, kP3_r, e_ok1, e_nx1, e_ok2, e_rz2, e_ok1c, e_ok2c, kC2_u, kC3_t, e_dsel, kD1_v, kD2_v, e_mth, kMt1_v, kMt2_l, kMt3_v, kMt4_s, l_any4, l_all4, ist_s0, ist_i0, tr_bl, is_nn, is_bn, is_in, is_tn, is_ln, is_sn, nb0, nc0, nb1, nc1, nb2, nc2, nb3, nc3, nb4, nc4, nb5, nc5, nb6, nc6, nb7, nc7, nb8, nc8, nb9, nc9, nb10, nc10, nb11, nc11, nb12, nc12, nb13, nc13, nb14, nc14, nb15, nc15, nb16, nc16, nb17, nc17, nb18, nc18, nb19, nc19, nb20, nc20, nb21, nc21, nb22, nc22, nb23, nc23, nb24, nc24, nb25, nc25, nb26, nc26, nb27, nc27, nb28, nc28, nb29, nc29, nb30, nc30, nb31, nc31, nb32, nc32, nb33, nc33, nb34, nc34, nb35, nc35, nb36, nc36, nb37, nc37, nb38, nc38, nb39, nc39, nb40, nc40, r1_0, r1_1, r1_2, r1_3, r1_4, r1_5, r1_6, rgl_1, rgl_2, rgl_3, rgl_4, md_1, md_2, md_3, md_4, qt0, qt1, qt2, qt3, Int.reduceMul, Int.reduceNeg, Int.reduceAdd, Nat.add_zero, Nat.reduceAdd, Bool.true_and, Bool.and_true, Bool.false_and, Bool.and_false, Bool.or_false, Bool.false_or]
  · have bc : (r * r == N) = false := beq_eq_false_iff_ne.mpr hc
    rw [if_neg hc]
    simp only [u_root_of, e, d, z, b_mul sm sm, bc, e_var, kV_d, kV_r, kVr_l, kVr_f, e_arg, kA_d, kA_r, e_lit, pk_d, pk_r, kPr_l, kPr_f, outD_s, outB_s, e_bin, kBin1_v, kBin1_r, kBin2_v, kBin2_r, kBin3_s, e_cmp, kCmp1_v, kCmp1_r, kCmp2_v, kCmp2_r, kCmp3_s, e_idx, kIdx1_v, kIdx1_r, kIdx2_v, kIdx2_r, kIdx3_s, e_neg, kNeg1_v, kNeg1_r, e_tru, kTru1_v, kTru1_r, kNeg2_s, kTru2_s, e_isc, kIsc1_v, kIsc1_r, kIsc2_s, e_and, kAnd_t, kAnd_f, kAnd_r, e_or, kOr_t, kOr_f, kOr_r, e_not, kNot_t, kNot_f, kNot_r, e_ifx, kIfx_t, kIfx_f, kIfx_r, e_chn, kCh1_v, kCh1_r, kCh2_v, kCh2_r, kChP_s, kChB_t, kChB_f, kCh3_v, kCh3_r, kCh4_s, e_nil, e_cons, kCs1_v, kCs1_r, kCs2_v, kCs2_r, e_tup, kTu1_v, kTu1_r, kTu2_0, kTu2_1, kTu2_2, kTu2_3, kTu2_4, kTu2_5, kTu2_6, kTu2_7, kTu2_8, e_lst, kLi1_v, kLi1_r, kLi2_0, kLi2_1, kLi2_2, kLi2_3, kLi2_4, kLi2_5, kLi2_6, kLi2_7, kLi2_8, datL, Option.map_some, e_call, kCa1_v, kCa1_r, kCa2_o, kCa2_r, e_blt, kBl1_v, kBl1_r, kBl2_s, pl_nil, pl_cons, kPL_s, e_rng1, kR1_v, e_rng2, kR2_v, kR2_r, kR2b_v, e_comp, kC1_v, kC1_r, cl_nil, cl_cons, kCL_y, kCL_n, s_step, kS1_s, kS2_t, kS2_f, kS3_v, t_seq, kSq_n, kSq_t, kSq_r, kSq_b, t_nop, t_asg, kAs1_v, kAs1_r, kAs2_s, t_par, kPa1_v, kPa2_v, par_d, t_ret, kRt_v, kRt_r, t_exp, kEx_v, kEx_r, t_ite, kIt_t, kIt_f, kIt_r, t_rse, t_brk, t_try, kTr_r, kTr_n, kTr_t, t_for, kF1_v, kF1_r, kF2_s, fl_nil, fl_cons, kFL_n, kFL_t, kFL_r, kFL_b, s_for, kSF_s, List.getElem?_cons_zero, List.getElem?_cons_succ, List.set_cons_zero, List.set_cons_succ, List.length_cons, List.length_nil, List.cons_append, List.nil_append, b_add, b_sub, b_mul, b_fdiv, b_mod, c_lt, c_le, c_gt, c_ge, c_eq, c_ne, c_eqi, c_nei, l_tup, l_list, l_abs, sq_t, sq_l, i_t1_0, i_l1_0, i_t2_0, i_l2_0, i_t2_1, i_l2_1, i_t3_0, i_l3_0, i_t3_1, i_l3_1, i_t3_2, i_l3_2, i_t4_0, i_l4_0, i_t4_1, i_l4_1, i_t4_2, i_l4_2, i_t4_3, i_l4_3, i_t5_0, i_l5_0, i_t5_1, i_l5_1, i_t5_2, i_l5_2, i_t5_3, i_l5_3, i_t5_4, i_l5_4, i_t6_0, i_l6_0, i_t6_1, i_l6_1, i_t6_2, i_l6_2, i_t6_3, i_l6_3, i_t6_4, i_l6_4, i_t6_5, i_l6_5, bt_nm, wp_nil, wp_cons, List.replicate, Nat.reduceSub, List.append_nil, Int.reduceLT, Int.reduceLE, Int.reduceBEq, Int.reduceSub, decide_true, decide_false, Bool.not_true, Bool.not_false, Bool.not_not, e_rz, e_rz1, e_ok, e_nx, isc_e, ln0, ln1, ln2, ln3, ln4, lt2, lt4, if_true, if_false, reduceIte, Bool.false_eq_true, bt_nil_t, bt_cons_t, bt_nil_l, bt_cons_l, Option.bind, e_okC, t_asgM, kM1_l, kM2_t, kM1_r, nr_nil, nr_d, nr_u, nr_r, bq_0, bq_0a, bl_1, bl_1z, bl_2, bl_2z, bl_21, bl_c1, bl_c1z, bl_c1y, bl_c1x, bl_c2, bl_c2z, bl_c21, g_1, g_2, g_21, s_1, s_2, s_21, t_apd2, kAp3_u, kAp4_t, kP1_v, kP1_r, kP2_l, kP3_v, kP3_r, e_ok1, e_nx1, e_ok2, e_rz2, e_ok1c, e_ok2c, kC2_u, kC3_t, e_dsel, kD1_v, kD2_v, e_mth, kMt1_v, kMt2_l, kMt3_v, kMt4_s, l_any4, l_all4, ist_s0, ist_i0, tr_bl, is_nn, is_bn, is_in, is_tn, is_ln, is_sn, nb0, nc0, nb1, nc1, nb2, nc2, nb3, nc3, nb4, nc4, nb5, nc5, nb6, nc6, nb7, nc7, nb8, nc8, nb9, nc9, nb10, nc10, nb11, nc11, nb12, nc12, nb13, nc13, nb14, nc14, nb15, nc15, nb16, nc16, nb17, nc17, nb18, nc18, nb19, nc19, nb20, nc20, nb21, nc21, nb22, nc22, nb23, nc23, nb24, nc24, nb25, nc25, nb26, nc26, nb27, nc27, nb28, nc28, nb29, nc29, nb30, nc30, nb31, nc31, nb32, nc32, nb33, nc33, nb34, nc34, nb35, nc35, nb36, nc36, nb37, nc37, nb38, nc38, nb39, nc39, nb40, nc40, r1_0, r1_1, r1_2, r1_3, r1_4, r1_5, r1_6, rgl_1, rgl_2, rgl_3, rgl_4, md_1, md_2, md_3, md_4, qt0, qt1, qt2, qt3, Int.reduceMul, Int.reduceNeg, Int.reduceAdd, Nat.add_zero, Nat.reduceAdd, Bool.true_and, Bool.and_true, Bool.false_and, Bool.and_false, Bool.or_false, Bool.false_or]
/-! the law's root -/
def laT : E := (.cmp .lt (.bin .mul (.arg 1) (.arg 1)) (.arg 0))
def laB : T := (.asg (.nm 1) (.bin .mul (.lit (.int 2)) (.arg 1)))
def lbT : E := (.cmp .lt (.arg 2) (.arg 1))
def lbB : T := (.seq (.asg (.nm 3) (.bin .fdiv (.bin .add (.arg 2) (.arg 1)) (.lit (.int 2)))) (.ite (.cmp .lt (.bin .mul (.arg 3) (.arg 3)) (.arg 0)) (.asg (.nm 2) (.bin .add (.arg 3) (.lit (.int 1)))) (.asg (.nm 1) (.var 3))))
theorem la_loop {N : Int} (hN : Bd 990 N) : ∀ (m : Nat) (f : Int), 1 ≤ f → f ≤ 2 * N + 1 → (2 * N + 2 - f).natAbs < m → ∃ f' : Int, whlL (evE LW c laT) (evT LW c w laB) m [.d (.int N), .d (.int f), .un, .un] S = some (.nx, [.d (.int N), .d (.int f'), .un, .un], S) ∧ 1 ≤ f' ∧ N ≤ f' * f' ∧ Bd 1000 f'
  | 0, _, _, _, h => absurd h (Nat.not_lt_zero _)
  | m + 1, f, h1, h2, hm => by
    have bf : Bd 1000 f := bd_btw (b := 2 * N + 1) ((Bd.add (Bd.mul Bd.two hN) Bd.one).mono (by decide)) (by omega) h2
    have sm := bf.sm (show 1000 ≤ 8000 by decide)
    by_cases ht : f * f < N
    · have d : decide (f * f < N) = true := decide_eq_true ht
      have ff : 1 * f ≤ f * f := Int.mul_le_mul_of_nonneg_right h1 (by omega)
      have t1 : evE LW c laT [.d (.int N), .d (.int f), .un, .un] S = some (.v (.d (.bl true)), S) := by
        simp only [laT, b_mul sm sm, d, e_var, kV_d, kV_r, kVr_l, kVr_f, e_arg, kA_d, kA_r, e_lit, pk_d, pk_r, kPr_l, kPr_f, outD_s, outB_s, e_bin, kBin1_v, kBin1_r, kBin2_v, kBin2_r, kBin3_s, e_cmp, kCmp1_v, kCmp1_r, kCmp2_v, kCmp2_r, kCmp3_s, e_idx, kIdx1_v, kIdx1_r, kIdx2_v, kIdx2_r, kIdx3_s, e_neg, kNeg1_v, kNeg1_r, e_tru, kTru1_v, kTru1_r, kNeg2_s, kTru2_s, e_isc, kIsc1_v, kIsc1_r, kIsc2_s, e_and, kAnd_t, kAnd_f, kAnd_r, e_or, kOr_t, kOr_f, kOr_r, e_not, kNot_t, kNot_f, kNot_r, e_ifx, kIfx_t, kIfx_f, kIfx_r, e_chn, kCh1_v, kCh1_r, kCh2_v, kCh2_r, kChP_s, kChB_t, kChB_f, kCh3_v, kCh3_r, kCh4_s, e_nil, e_cons, kCs1_v, kCs1_r, kCs2_v, kCs2_r, e_tup, kTu1_v, kTu1_r, kTu2_0, kTu2_1, kTu2_2, kTu2_3, kTu2_4, kTu2_5, kTu2_6, kTu2_7, kTu2_8, e_lst, kLi1_v, kLi1_r, kLi2_0, kLi2_1, kLi2_2, kLi2_3, kLi2_4, kLi2_5, kLi2_6, kLi2_7, kLi2_8, datL, Option.map_some, e_call, kCa1_v, kCa1_r, kCa2_o, kCa2_r, e_blt, kBl1_v, kBl1_r, kBl2_s, pl_nil, pl_cons, kPL_s, e_rng1, kR1_v, e_rng2, kR2_v, kR2_r, kR2b_v, e_comp, kC1_v, kC1_r, cl_nil, cl_cons, kCL_y, kCL_n, s_step, kS1_s, kS2_t, kS2_f, kS3_v, t_seq, kSq_n, kSq_t, kSq_r, kSq_b, t_nop, t_asg, kAs1_v, kAs1_r, kAs2_s, t_par, kPa1_v, kPa2_v, par_d, t_ret, kRt_v, kRt_r, t_exp, kEx_v, kEx_r, t_ite, kIt_t, kIt_f, kIt_r, t_rse, t_brk, t_try, kTr_r, kTr_n, kTr_t, t_for, kF1_v, kF1_r, kF2_s, fl_nil, fl_cons, kFL_n, kFL_t, kFL_r, kFL_b, s_for, kSF_s, List.getElem?_cons_zero, List.getElem?_cons_succ, List.set_cons_zero, List.set_cons_succ, List.length_cons, List.length_nil, List.cons_append, List.nil_append, b_add, b_sub, b_mul, b_fdiv, b_mod, c_lt, c_le, c_gt, c_ge, c_eq, c_ne, c_eqi, c_nei, l_tup, l_list, l_abs, sq_t, sq_l, i_t1_0, i_l1_0, i_t2_0, i_l2_0, i_t2_1, i_l2_1, i_t3_0, i_l3_0, i_t3_1, i_l3_1, i_t3_2, i_l3_2, i_t4_0, i_l4_0, i_t4_1, i_l4_1, i_t4_2, i_l4_2, i_t4_3, i_l4_3, i_t5_0, i_l5_0, i_t5_1, i_l5_1, i_t5_2, i_l5_2, i_t5_3, i_l5_3, i_t5_4, i_l5_4, i_t6_0, i_l6_0, i_t6_1, i_l6_1, i_t6_2, i_l6_2, i_t6_3, i_l6_3, i_t6_4, i_l6_4, i_t6_5, i_l6_5, bt_nm, wp_nil, wp_cons, List.replicate, Nat.reduceSub, List.append_nil, Int.reduceLT, Int.reduceLE, Int.reduceBEq, Int.reduceSub, decide_true, decide_false, Bool.not_true, Bool.not_false, Bool.not_not, e_rz, e_rz1, e_ok, e_nx, isc_e, ln0, ln1, ln2, ln3, ln4, lt2, lt4, if_true, if_false, reduceIte, Bool.false_eq_true, bt_nil_t, bt_cons_t, bt_nil_l, bt_cons_l, Option.bind, e_okC, t_asgM, kM1_l, kM2_t, kM1_r, nr_nil, nr_d, nr_u, nr_r, bq_0, bq_0a, bl_1, bl_1z, bl_2, bl_2z, bl_21, bl_c1, bl_c1z, bl_c1y, bl_c1x, bl_c2, bl_c2z, bl_c21, g_1, g_2, g_21, s_1, s_2, s_21, t_apd2, kAp3_u, kAp4_t, kP1_v, kP1_r, kP2_l, kP3_v, kP3_r, e_ok1, e_nx1, e_ok2, e_rz2, e_ok1c, e_ok2c, kC2_u, kC3_t, e_dsel, kD1_v, kD2_v, e_mth, kMt1_v, kMt2_l, kMt3_v, kMt4_s, l_any4, l_all4, ist_s0, ist_i0, tr_bl, is_nn, is_bn, is_in, is_tn, is_ln, is_sn, nb0, nc0, nb1, nc1, nb2, nc2, nb3, nc3, nb4, nc4, nb5, nc5, nb6, nc6, nb7, nc7, nb8, nc8, nb9, nc9, nb10, nc10, nb11, nc11, nb12, nc12, nb13, nc13, nb14, nc14, nb15, nc15, nb16, nc16, nb17, nc17, nb18, nc18, nb19, nc19, nb20, nc20, nb21, nc21, nb22, nc22, nb23, nc23, nb24, nc24, nb25, nc25, nb26, nc26, nb27, nc27, nb28, nc28, nb29, nc29, nb30, nc30, nb31, nc31, nb32, nc32, nb33, nc33, nb34, nc34, nb35, nc35, nb36, nc36, nb37, nc37, nb38, nc38, nb39, nc39, nb40, nc40, r1_0, r1_1, r1_2, r1_3, r1_4, r1_5, r1_6, rgl_1, rgl_2, rgl_3, rgl_4, md_1, md_2, md_3, md_4, qt0, qt1, qt2, qt3, Int.reduceMul, Int.reduceNeg, Int.reduceAdd, Nat.add_zero, Nat.reduceAdd, Bool.true_and, Bool.and_true, Bool.false_and, Bool.and_false, Bool.or_false, Bool.false_or]
      have t2 : evT LW c w laB [.d (.int N), .d (.int f), .un, .un] S = some (.nx, [.d (.int N), .d (.int (2 * f)), .un, .un], S) := by
        simp only [laB, b_mul sm2 sm, e_var, kV_d, kV_r, kVr_l, kVr_f, e_arg, kA_d, kA_r, e_lit, pk_d, pk_r, kPr_l, kPr_f, outD_s, outB_s, e_bin, kBin1_v, kBin1_r, kBin2_v, kBin2_r, kBin3_s, e_cmp, kCmp1_v, kCmp1_r, kCmp2_v, kCmp2_r, kCmp3_s, e_idx, kIdx1_v, kIdx1_r, kIdx2_v, kIdx2_r, kIdx3_s, e_neg, kNeg1_v, kNeg1_r, e_tru, kTru1_v, kTru1_r, kNeg2_s, kTru2_s, e_isc, kIsc1_v, kIsc1_r, kIsc2_s, e_and, kAnd_t, kAnd_f, kAnd_r, e_or, kOr_t, kOr_f, kOr_r, e_not, kNot_t, kNot_f, kNot_r, e_ifx, kIfx_t, kIfx_f, kIfx_r, e_chn, kCh1_v, kCh1_r, kCh2_v, kCh2_r, kChP_s, kChB_t, kChB_f, kCh3_v, kCh3_r, kCh4_s, e_nil, e_cons, kCs1_v, kCs1_r, kCs2_v, kCs2_r, e_tup, kTu1_v, kTu1_r, kTu2_0, kTu2_1, kTu2_2, kTu2_3, kTu2_4, kTu2_5, kTu2_6, kTu2_7, kTu2_8, e_lst, kLi1_v, kLi1_r, kLi2_0, kLi2_1, kLi2_2, kLi2_3, kLi2_4, kLi2_5, kLi2_6, kLi2_7, kLi2_8, datL, Option.map_some, e_call, kCa1_v, kCa1_r, kCa2_o, kCa2_r, e_blt, kBl1_v, kBl1_r, kBl2_s, pl_nil, pl_cons, kPL_s, e_rng1, kR1_v, e_rng2, kR2_v, kR2_r, kR2b_v, e_comp, kC1_v, kC1_r, cl_nil, cl_cons, kCL_y, kCL_n, s_step, kS1_s, kS2_t, kS2_f, kS3_v, t_seq, kSq_n, kSq_t, kSq_r, kSq_b, t_nop, t_asg, kAs1_v, kAs1_r, kAs2_s, t_par, kPa1_v, kPa2_v, par_d, t_ret, kRt_v, kRt_r, t_exp, kEx_v, kEx_r, t_ite, kIt_t, kIt_f, kIt_r, t_rse, t_brk, t_try, kTr_r, kTr_n, kTr_t, t_for, kF1_v, kF1_r, kF2_s, fl_nil, fl_cons, kFL_n, kFL_t, kFL_r, kFL_b, s_for, kSF_s, List.getElem?_cons_zero, List.getElem?_cons_succ, List.set_cons_zero, List.set_cons_succ, List.length_cons, List.length_nil, List.cons_append, List.nil_append, b_add, b_sub, b_mul, b_fdiv, b_mod, c_lt, c_le, c_gt, c_ge, c_eq, c_ne, c_eqi, c_nei, l_tup, l_list, l_abs, sq_t, sq_l, i_t1_0, i_l1_0, i_t2_0, i_l2_0, i_t2_1, i_l2_1, i_t3_0, i_l3_0, i_t3_1, i_l3_1, i_t3_2, i_l3_2, i_t4_0, i_l4_0, i_t4_1, i_l4_1, i_t4_2, i_l4_2, i_t4_3, i_l4_3, i_t5_0, i_l5_0, i_t5_1, i_l5_1, i_t5_2, i_l5_2, i_t5_3, i_l5_3, i_t5_4, i_l5_4, i_t6_0, i_l6_0, i_t6_1, i_l6_1, i_t6_2, i_l6_2, i_t6_3, i_l6_3, i_t6_4, i_l6_4, i_t6_5, i_l6_5, bt_nm, wp_nil, wp_cons, List.replicate, Nat.reduceSub, List.append_nil, Int.reduceLT, Int.reduceLE, Int.reduceBEq, Int.reduceSub, decide_true, decide_false, Bool.not_true, Bool.not_false, Bool.not_not, e_rz, e_rz1, e_ok, e_nx, isc_e, ln0, ln1, ln2, ln3, ln4, lt2, lt4, if_true, if_false, reduceIte, Bool.false_eq_true, bt_nil_t, bt_cons_t, bt_nil_l, bt_cons_l, Option.bind, e_okC, t_asgM, kM1_l, kM2_t, kM1_r, nr_nil, nr_d, nr_u, nr_r, bq_0, bq_0a, bl_1, bl_1z, bl_2, bl_2z, bl_21, bl_c1, bl_c1z, bl_c1y, bl_c1x, bl_c2, bl_c2z, bl_c21, g_1, g_2, g_21, s_1, s_2, s_21, t_apd2, kAp3_u, kAp4_t, kP1_v, kP1_r, kP2_l, kP3_v, kP3_r, e_ok1, e_nx1, e_ok2, e_rz2, e_ok1c, e_ok2c, kC2_u, kC3_t, e_dsel, kD1_v, kD2_v, e_mth, kMt1_v, kMt2_l, kMt3_v, kMt4_s, l_any4, l_all4, ist_s0, ist_i0, tr_bl, is_nn, is_bn, is_in, is_tn, is_ln, is_sn, nb0, nc0, nb1, nc1, nb2, nc2, nb3, nc3, nb4, nc4, nb5, nc5, nb6, nc6, nb7, nc7, nb8, nc8, nb9, nc9, nb10, nc10, nb11, nc11, nb12, nc12, nb13, nc13, nb14, nc14, nb15, nc15, nb16, nc16, nb17, nc17, nb18, nc18, nb19, nc19, nb20, nc20, nb21, nc21, nb22, nc22, nb23, nc23, nb24, nc24, nb25, nc25, nb26, nc26, nb27, nc27, nb28, nc28, nb29, nc29, nb30, nc30, nb31, nc31, nb32, nc32, nb33, nc33, nb34, nc34, nb35, nc35, nb36, nc36, nb37, nc37, nb38, nc38, nb39, nc39, nb40, nc40, r1_0, r1_1, r1_2, r1_3, r1_4, r1_5, r1_6, rgl_1, rgl_2, rgl_3, rgl_4, md_1, md_2, md_3, md_4, qt0, qt1, qt2, qt3, Int.reduceMul, Int.reduceNeg, Int.reduceAdd, Nat.add_zero, Nat.reduceAdd, Bool.true_and, Bool.and_true, Bool.false_and, Bool.and_false, Bool.or_false, Bool.false_or]
      obtain ⟨f', z, z1⟩ := la_loop hN m (2 * f) (by omega) (by omega) (by omega)
      refine ⟨f', ?_, z1⟩
      simp only [whlL, t1, t2]
      exact z
    · have d : decide (f * f < N) = false := decide_eq_false ht
      have t1 : evE LW c laT [.d (.int N), .d (.int f), .un, .un] S = some (.v (.d (.bl false)), S) := by
        simp only [laT, b_mul sm sm, d, e_var, kV_d, kV_r, kVr_l, kVr_f, e_arg, kA_d, kA_r, e_lit, pk_d, pk_r, kPr_l, kPr_f, outD_s, outB_s, e_bin, kBin1_v, kBin1_r, kBin2_v, kBin2_r, kBin3_s, e_cmp, kCmp1_v, kCmp1_r, kCmp2_v, kCmp2_r, kCmp3_s, e_idx, kIdx1_v, kIdx1_r, kIdx2_v, kIdx2_r, kIdx3_s, e_neg, kNeg1_v, kNeg1_r, e_tru, kTru1_v, kTru1_r, kNeg2_s, kTru2_s, e_isc, kIsc1_v, kIsc1_r, kIsc2_s, e_and, kAnd_t, kAnd_f, kAnd_r, e_or, kOr_t, kOr_f, kOr_r, e_not, kNot_t, kNot_f, kNot_r, e_ifx, kIfx_t, kIfx_f, kIfx_r, e_chn, kCh1_v, kCh1_r, kCh2_v, kCh2_r, kChP_s, kChB_t, kChB_f, kCh3_v, kCh3_r, kCh4_s, e_nil, e_cons, kCs1_v, kCs1_r, kCs2_v, kCs2_r, e_tup, kTu1_v, kTu1_r, kTu2_0, kTu2_1, kTu2_2, kTu2_3, kTu2_4, kTu2_5, kTu2_6, kTu2_7, kTu2_8, e_lst, kLi1_v, kLi1_r, kLi2_0, kLi2_1, kLi2_2, kLi2_3, kLi2_4, kLi2_5, kLi2_6, kLi2_7, kLi2_8, datL, Option.map_some, e_call, kCa1_v, kCa1_r, kCa2_o, kCa2_r, e_blt, kBl1_v, kBl1_r, kBl2_s, pl_nil, pl_cons, kPL_s, e_rng1, kR1_v, e_rng2, kR2_v, kR2_r, kR2b_v, e_comp, kC1_v, kC1_r, cl_nil, cl_cons, kCL_y, kCL_n, s_step, kS1_s, kS2_t, kS2_f, kS3_v, t_seq, kSq_n, kSq_t, kSq_r, kSq_b, t_nop, t_asg, kAs1_v, kAs1_r, kAs2_s, t_par, kPa1_v, kPa2_v, par_d, t_ret, kRt_v, kRt_r, t_exp, kEx_v, kEx_r, t_ite, kIt_t, kIt_f, kIt_r, t_rse, t_brk, t_try, kTr_r, kTr_n, kTr_t, t_for, kF1_v, kF1_r, kF2_s, fl_nil, fl_cons, kFL_n, kFL_t, kFL_r, kFL_b, s_for, kSF_s, List.getElem?_cons_zero, List.getElem?_cons_succ, List.set_cons_zero, List.set_cons_succ, List.length_cons, List.length_nil, List.cons_append, List.nil_append, b_add, b_sub, b_mul, b_fdiv, b_mod, c_lt, c_le, c_gt, c_ge, c_eq, c_ne, c_eqi, c_nei, l_tup, l_list, l_abs, sq_t, sq_l, i_t1_0, i_l1_0, i_t2_0, i_l2_0, i_t2_1, i_l2_1, i_t3_0, i_l3_0, i_t3_1, i_l3_1, i_t3_2, i_l3_2, i_t4_0, i_l4_0, i_t4_1, i_l4_1, i_t4_2, i_l4_2, i_t4_3, i_l4_3, i_t5_0, i_l5_0, i_t5_1, i_l5_1, i_t5_2, i_l5_2, i_t5_3, i_l5_3, i_t5_4, i_l5_4, i_t6_0, i_l6_0, i_t6_1, i_l6_1, i_t6_2, i_l6_2, i_t6_3, i_l6_3, i_t6_4, i_l6_4, i_t6_5, i_l6_5, bt_nm, wp_nil, wp_cons, List.replicate, Nat.reduceSub, List.append_nil, Int.reduceLT, Int.reduceLE, Int.reduceBEq, Int.reduceSub, decide_true, decide_false, Bool.not_true, Bool.not_false, Bool.not_not, e_rz, e_rz1, e_ok, e_nx, isc_e, ln0, ln1, ln2, ln3, ln4, lt2, lt4, if_true, if_false, reduceIte, Bool.false_eq_true, bt_nil_t, bt_cons_t, bt_nil_l, bt_cons_l, Option.bind, e_okC, t_asgM, kM1_l, kM2_t, kM1_r, nr_nil, nr_d, nr_u, nr_r, bq_0, bq_0a, bl_1, bl_1z, bl_2, bl_2z, bl_21, bl_c1, bl_c1z, bl_c1y, bl_c1x, bl_c2, bl_c2z, bl_c21, g_1, g_2, g_21, s_1, s_2, s_21, t_apd2, kAp3_u, kAp4_t, kP1_v, kP1_r, kP2_l, kP3_v, kP3_r, e_ok1, e_nx1, e_ok2, e_rz2, e_ok1c, e_ok2c, kC2_u, kC3_t, e_dsel, kD1_v, kD2_v, e_mth, kMt1_v, kMt2_l, kMt3_v, kMt4_s, l_any4, l_all4, ist_s0, ist_i0, tr_bl, is_nn, is_bn, is_in, is_tn, is_ln, is_sn, nb0, nc0, nb1, nc1, nb2, nc2, nb3, nc3, nb4, nc4, nb5, nc5, nb6, nc6, nb7, nc7, nb8, nc8, nb9, nc9, nb10, nc10, nb11, nc11, nb12, nc12, nb13, nc13, nb14, nc14, nb15, nc15, nb16, nc16, nb17, nc17, nb18, nc18, nb19, nc19, nb20, nc20, nb21, nc21, nb22, nc22, nb23, nc23, nb24, nc24, nb25, nc25, nb26, nc26, nb27, nc27, nb28, nc28, nb29, nc29, nb30, nc30, nb31, nc31, nb32, nc32, nb33, nc33, nb34, nc34, nb35, nc35, nb36, nc36, nb37, nc37, nb38, nc38, nb39, nc39, nb40, nc40, r1_0, r1_1, r1_2, r1_3, r1_4, r1_5, r1_6, rgl_1, rgl_2, rgl_3, rgl_4, md_1, md_2, md_3, md_4, qt0, qt1, qt2, qt3, Int.reduceMul, Int.reduceNeg, Int.reduceAdd, Nat.add_zero, Nat.reduceAdd, Bool.true_and, Bool.and_true, Bool.false_and, Bool.and_false, Bool.or_false, Bool.false_or]
      refine ⟨f, ?_, h1, by omega, bf⟩
      simp only [whlL, t1]
theorem lb_loop {N : Int} : ∀ (m : Nat) (lo hi : Int) (s3 : Sl), 0 ≤ lo → lo ≤ hi → (lo = 0 ∨ (lo - 1) * (lo - 1) < N) → N ≤ hi * hi → Bd 1000 hi → (hi - lo).natAbs < m →
    ∃ (r : Int) (s3' : Sl), whlL (evE LW c lbT) (evT LW c w lbB) m [.d (.int N), .d (.int hi), .d (.int lo), s3] S = some (.nx, [.d (.int N), .d (.int r), .d (.int r), s3'], S) ∧ 0 ≤ r ∧ (r = 0 ∨ (r - 1) * (r - 1) < N) ∧ N ≤ r * r ∧ Bd 1000 r
  | 0, _, _, _, _, _, _, _, _, h => absurd h (Nat.not_lt_zero _)
  | m + 1, lo, hi, s3, h0, h1, h2, h3, hb, hm => by
    by_cases ht : lo < hi
    · have d : decide (lo < hi) = true := decide_eq_true ht
      have t1 : evE LW c lbT [.d (.int N), .d (.int hi), .d (.int lo), s3] S = some (.v (.d (.bl true)), S) := by
        simp only [lbT, d, e_var, kV_d, kV_r, kVr_l, kVr_f, e_arg, kA_d, kA_r, e_lit, pk_d, pk_r, kPr_l, kPr_f, outD_s, outB_s, e_bin, kBin1_v, kBin1_r, kBin2_v, kBin2_r, kBin3_s, e_cmp, kCmp1_v, kCmp1_r, kCmp2_v, kCmp2_r, kCmp3_s, e_idx, kIdx1_v, kIdx1_r, kIdx2_v, kIdx2_r, kIdx3_s, e_neg, kNeg1_v, kNeg1_r, e_tru, kTru1_v, kTru1_r, kNeg2_s, kTru2_s, e_isc, kIsc1_v, kIsc1_r, kIsc2_s, e_and, kAnd_t, kAnd_f, kAnd_r, e_or, kOr_t, kOr_f, kOr_r, e_not, kNot_t, kNot_f, kNot_r, e_ifx, kIfx_t, kIfx_f, kIfx_r, e_chn, kCh1_v, kCh1_r, kCh2_v, kCh2_r, kChP_s, kChB_t, kChB_f, kCh3_v, kCh3_r, kCh4_s, e_nil, e_cons, kCs1_v, kCs1_r, kCs2_v, kCs2_r, e_tup, kTu1_v, kTu1_r, kTu2_0, kTu2_1, kTu2_2, kTu2_3, kTu2_4, kTu2_5, kTu2_6, kTu2_7, kTu2_8, e_lst, kLi1_v, kLi1_r, kLi2_0, kLi2_1, kLi2_2, kLi2_3, kLi2_4, kLi2_5, kLi2_6, kLi2_7, kLi2_8, datL, Option.map_some, e_call, kCa1_v, kCa1_r, kCa2_o, kCa2_r, e_blt, kBl1_v, kBl1_r, kBl2_s, pl_nil, pl_cons, kPL_s, e_rng1, kR1_v, e_rng2, kR2_v, kR2_r, kR2b_v, e_comp, kC1_v, kC1_r, cl_nil, cl_cons, kCL_y, kCL_n, s_step, kS1_s, kS2_t, kS2_f, kS3_v, t_seq, kSq_n, kSq_t, kSq_r, kSq_b, t_nop, t_asg, kAs1_v, kAs1_r, kAs2_s, t_par, kPa1_v, kPa2_v, par_d, t_ret, kRt_v, kRt_r, t_exp, kEx_v, kEx_r, t_ite, kIt_t, kIt_f, kIt_r, t_rse, t_brk, t_try, kTr_r, kTr_n, kTr_t, t_for, kF1_v, kF1_r, kF2_s, fl_nil, fl_cons, kFL_n, kFL_t, kFL_r, kFL_b, s_for, kSF_s, List.getElem?_cons_zero, List.getElem?_cons_succ, List.set_cons_zero, List.set_cons_succ, List.length_cons, List.length_nil, List.cons_append, List.nil_append, b_add, b_sub, b_mul, b_fdiv, b_mod, c_lt, c_le, c_gt, c_ge, c_eq, c_ne, c_eqi, c_nei, l_tup, l_list, l_abs, sq_t, sq_l, i_t1_0, i_l1_0, i_t2_0, i_l2_0, i_t2_1, i_l2_1, i_t3_0, i_l3_0, i_t3_1, i_l3_1, i_t3_2, i_l3_2, i_t4_0, i_l4_0, i_t4_1, i_l4_1, i_t4_2, i_l4_2, i_t4_3, i_l4_3, i_t5_0, i_l5_0, i_t5_1, i_l5_1, i_t5_2, i_l5_2, i_t5_3, i_l5_3, i_t5_4, i_l5_4, i_t6_0, i_l6_0, i_t6_1, i_l6_1, i_t6_2, i_l6_2, i_t6_3, i_l6_3, i_t6_4, i_l6_4, i_t6_5, i_l6_5, bt_nm, wp_nil, wp_cons, List.replicate, Nat.reduceSub, List.append_nil, Int.reduceLT, Int.reduceLE, Int.reduceBEq, Int.reduceSub, decide_true, decide_false, Bool.not_true, Bool.not_false, Bool.not_not, e_rz, e_rz1, e_ok, e_nx, isc_e, ln0, ln1, ln2, ln3, ln4, lt2, lt4, if_true, if_false, reduceIte, Bool.false_eq_true, bt_nil_t, bt_cons_t, bt_nil_l, bt_cons_l, Option.bind, e_okC, t_asgM, kM1_l, kM2_t, kM1_r, nr_nil, nr_d, nr_u, nr_r, bq_0, bq_0a, bl_1, bl_1z, bl_2, bl_2z, bl_21, bl_c1, bl_c1z, bl_c1y, bl_c1x, bl_c2, bl_c2z, bl_c21, g_1, g_2, g_21, s_1, s_2, s_21, t_apd2, kAp3_u, kAp4_t, kP1_v, kP1_r, kP2_l, kP3_v, kP3_r, e_ok1, e_nx1, e_ok2, e_rz2, e_ok1c, e_ok2c, kC2_u, kC3_t, e_dsel, kD1_v, kD2_v, e_mth, kMt1_v, kMt2_l, kMt3_v, kMt4_s, l_any4, l_all4, ist_s0, ist_i0, tr_bl, is_nn, is_bn, is_in, is_tn, is_ln, is_sn, nb0, nc0, nb1, nc1, nb2, nc2, nb3, nc3, nb4, nc4, nb5, nc5, nb6, nc6, nb7, nc7, nb8, nc8, nb9, nc9, nb10, nc10, nb11, nc11, nb12, nc12, nb13, nc13, nb14, nc14, nb15, nc15, nb16, nc16, nb17, nc17, nb18, nc18, nb19, nc19, nb20, nc20, nb21, nc21, nb22, nc22, nb23, nc23, nb24, nc24, nb25, nc25, nb26, nc26, nb27, nc27, nb28, nc28, nb29, nc29, nb30, nc30, nb31, nc31, nb32, nc32, nb33, nc33, nb34, nc34, nb35, nc35, nb36, nc36, nb37, nc37, nb38, nc38, nb39, nc39, nb40, nc40, r1_0, r1_1, r1_2, r1_3, r1_4, r1_5, r1_6, rgl_1, rgl_2, rgl_3, rgl_4, md_1, md_2, md_3, md_4, qt0, qt1, qt2, qt3, Int.reduceMul, Int.reduceNeg, Int.reduceAdd, Nat.add_zero, Nat.reduceAdd, Bool.true_and, Bool.and_true, Bool.false_and, Bool.and_false, Bool.or_false, Bool.false_or]
      have fd : (lo + hi).fdiv 2 = (lo + hi) / 2 := Int.fdiv_eq_ediv_of_nonneg _ (by decide)
      have bf : binD .fdiv (.int (lo + hi)) (.int 2) = some (.int ((lo + hi) / 2)) := by rw [b_fdiv sm2 z20, fd]
      generalize hq : (lo + hi) / 2 = md at *
      have m1 : lo ≤ md := by omega
      have m2 : md < hi := by omega
      have bm : Bd 1000 md := bd_btw hb (by omega) (by omega)
      have sm := bm.sm (show 1000 ≤ 8000 by decide)
      by_cases hc : md * md < N
      · have dc : decide (md * md < N) = true := decide_eq_true hc
        have t2 : evT LW c w lbB [.d (.int N), .d (.int hi), .d (.int lo), s3] S = some (.nx, [.d (.int N), .d (.int hi), .d (.int (md + 1)), .d (.int md)], S) := by
          simp only [lbB, bf, b_mul sm sm, dc, e_var, kV_d, kV_r, kVr_l, kVr_f, e_arg, kA_d, kA_r, e_lit, pk_d, pk_r, kPr_l, kPr_f, outD_s, outB_s, e_bin, kBin1_v, kBin1_r, kBin2_v, kBin2_r, kBin3_s, e_cmp, kCmp1_v, kCmp1_r, kCmp2_v, kCmp2_r, kCmp3_s, e_idx, kIdx1_v, kIdx1_r, kIdx2_v, kIdx2_r, kIdx3_s, e_neg, kNeg1_v, kNeg1_r, e_tru, kTru1_v, kTru1_r, kNeg2_s, kTru2_s, e_isc, kIsc1_v, kIsc1_r, kIsc2_s, e_and, kAnd_t, kAnd_f, kAnd_r, e_or, kOr_t, kOr_f, kOr_r, e_not, kNot_t, kNot_f, kNot_r, e_ifx, kIfx_t, kIfx_f, kIfx_r, e_chn, kCh1_v, kCh1_r, kCh2_v, kCh2_r, kChP_s, kChB_t, kChB_f, kCh3_v, kCh3_r, kCh4_s, e_nil, e_cons, kCs1_v, kCs1_r, kCs2_v, kCs2_r, e_tup, kTu1_v, kTu1_r, kTu2_0, kTu2_1, kTu2_2, kTu2_3, kTu2_4, kTu2_5, kTu2_6, kTu2_7, kTu2_8, e_lst, kLi1_v, kLi1_r, kLi2_0, kLi2_1, kLi2_2, kLi2_3, kLi2_4, kLi2_5, kLi2_6, kLi2_7, kLi2_8, datL, Option.map_some, e_call, kCa1_v, kCa1_r, kCa2_o, kCa2_r, e_blt, kBl1_v, kBl1_r, kBl2_s, pl_nil, pl_cons, kPL_s, e_rng1, kR1_v, e_rng2, kR2_v, kR2_r, kR2b_v, e_comp, kC1_v, kC1_r, cl_nil, cl_cons, kCL_y, kCL_n, s_step, kS1_s, kS2_t, kS2_f, kS3_v, t_seq, kSq_n, kSq_t, kSq_r, kSq_b, t_nop, t_asg, kAs1_v, kAs1_r, kAs2_s, t_par, kPa1_v, kPa2_v, par_d, t_ret, kRt_v, kRt_r, t_exp, kEx_v, kEx_r, t_ite, kIt_t, kIt_f, kIt_r, t_rse, t_brk, t_try, kTr_r, kTr_n, kTr_t, t_for, kF1_v, kF1_r, kF2_s, fl_nil, fl_cons, kFL_n, kFL_t, kFL_r, kFL_b, s_for, kSF_s, List.getElem?_cons_zero, List.getElem?_cons_succ, List.set_cons_zero, List.set_cons_succ, List.length_cons, List.length_nil, List.cons_append, List.nil_append, b_add, b_sub, b_mul, b_fdiv, b_mod, c_lt, c_le, c_gt, c_ge, c_eq, c_ne, c_eqi, c_nei, l_tup, l_list, l_abs, sq_t, sq_l, i_t1_0, i_l1_0, i_t2_0, i_l2_0, i_t2_1, i_l2_1, i_t3_0, i_l3_0, i_t3_1, i_l3_1, i_t3_2, i_l3_2, i_t4_0, i_l4_0, i_t4_1, i_l4_1, i_t4_2, i_l4_2, i_t4_3, i_l4_3, i_t5_0, i_l5_0, i_t5_1, i_l5_1, i_t5_2, i_l5_2, i_t5_3, i_l5_3, i_t5_4, i_l5_4, i_t6_0, i_l6_0, i_t6_1, i_l6_1, i_t6_2, i_l6_2, i_t6_3, i_l6_3, i_t6_4, i_l6_4, i_t6_5, i_l6_5, bt_nm, wp_nil, wp_cons, List.replicate, Nat.reduceSub, List.append_nil, Int.reduceLT, Int.reduceLE, Int.reduceBEq, Int.reduceSub, decide_true, decide_false, Bool.not_true, Bool.not_false, Bool.not_not, e_rz, e_rz1, e_ok, e_nx, isc_e, ln0, ln1, ln2, ln3, ln4, lt2, lt4, if_true, if_false, reduceIte, Bool.false_eq_true, bt_nil_t, bt_cons_t, bt_nil_l, bt_cons_l, Option.bind, e_okC, t_asgM, kM1_l, kM2_t, kM1_r, nr_nil, nr_d, nr_u, nr_r, bq_0, bq_0a, bl_1, bl_1z, bl_2, bl_2z, bl_21, bl_c1, bl_c1z, bl_c1y, bl_c1x, bl_c2, bl_c2z, bl_c21, g_1, g_2, g_21, s_1, s_2, s_21, t_apd2, kAp3_u, kAp4_t, kP1_v, kP1_r, kP2_l, kP3_v, kP3_r, e_ok1, e_nx1, e_ok2, e_rz2, e_ok1c, e_ok2c, kC2_u, kC3_t, e_dsel, kD1_v, kD2_v, e_mth, kMt1_v, kMt2_l, kMt3_v, kMt4_s, l_any4, l_all4, ist_s0, ist_i0, tr_bl, is_nn, is_bn, is_in, is_tn, is_ln, is_sn, nb0, nc0, nb1, nc1, nb2, nc2, nb3, nc3, nb4, nc4, nb5, nc5, nb6, nc6, nb7, nc7, nb8, nc8, nb9, nc9, nb10, nc10, nb11, nc11, nb12, nc12, nb13, nc13, nb14, nc14, nb15, nc15, nb16, nc16, nb17, nc17, nb18, nc18, nb19, nc19, nb20, nc20, nb21, nc21, nb22, nc22, nb23, nc23, nb24, nc24, nb25, nc25, nb26, nc26, nb27, nc27, nb28, nc28, nb29, nc29, nb30, nc30, nb31, nc31, nb32, nc32, nb33, nc33, nb34, nc34, nb35, nc35, nb36, nc36, nb37, nc37, nb38, nc38, nb39, nc39, nb40, nc40, r1_0, r1_1, r1_2, r1_3, r1_4, r1_5, r1_6, rgl_1, rgl_2, rgl_3, rgl_4, md_1, md_2, md_3, md_4, qt0, qt1, qt2, qt3, Int.reduceMul, Int.reduceNeg, Int.reduceAdd, Nat.add_zero, Nat.reduceAdd, Bool.true_and, Bool.and_true, Bool.false_and, Bool.and_false, Bool.or_false, Bool.false_or]
        obtain ⟨r, s3', z, z1⟩ := lb_loop m (md + 1) hi (.d (.int md)) (by omega) (by omega) (.inr (by rw [show md + 1 - 1 = md by omega]; exact hc)) h3 hb (by omega)
        refine ⟨r, s3', ?_, z1⟩
        simp only [whlL, t1, t2]
        exact z
      · have dc : decide (md * md < N) = false := decide_eq_false hc
        have t2 : evT LW c w lbB [.d (.int N), .d (.int hi), .d (.int lo), s3] S = some (.nx, [.d (.int N), .d (.int md), .d (.int lo), .d (.int md)], S) := by
          simp only [lbB, bf, b_mul sm sm, dc, e_var, kV_d, kV_r, kVr_l, kVr_f, e_arg, kA_d, kA_r, e_lit, pk_d, pk_r, kPr_l, kPr_f, outD_s, outB_s, e_bin, kBin1_v, kBin1_r, kBin2_v, kBin2_r, kBin3_s, e_cmp, kCmp1_v, kCmp1_r, kCmp2_v, kCmp2_r, kCmp3_s, e_idx, kIdx1_v, kIdx1_r, kIdx2_v, kIdx2_r, kIdx3_s, e_neg, kNeg1_v, kNeg1_r, e_tru, kTru1_v, kTru1_r, kNeg2_s, kTru2_s, e_isc, kIsc1_v, kIsc1_r, kIsc2_s, e_and, kAnd_t, kAnd_f, kAnd_r, e_or, kOr_t, kOr_f, kOr_r, e_not, kNot_t, kNot_f, kNot_r, e_ifx, kIfx_t, kIfx_f, kIfx_r, e_chn, kCh1_v, kCh1_r, kCh2_v, kCh2_r, kChP_s, kChB_t, kChB_f, kCh3_v, kCh3_r, kCh4_s, e_nil, e_cons, kCs1_v, kCs1_r, kCs2_v, kCs2_r, e_tup, kTu1_v, kTu1_r, kTu2_0, kTu2_1, kTu2_2, kTu2_3, kTu2_4, kTu2_5, kTu2_6, kTu2_7, kTu2_8, e_lst, kLi1_v, kLi1_r, kLi2_0, kLi2_1, kLi2_2, kLi2_3, kLi2_4, kLi2_5, kLi2_6, kLi2_7, kLi2_8, datL, Option.map_some, e_call, kCa1_v, kCa1_r, kCa2_o, kCa2_r, e_blt, kBl1_v, kBl1_r, kBl2_s, pl_nil, pl_cons, kPL_s, e_rng1, kR1_v, e_rng2, kR2_v, kR2_r, kR2b_v, e_comp, kC1_v, kC1_r, cl_nil, cl_cons, kCL_y, kCL_n, s_step, kS1_s, kS2_t, kS2_f, kS3_v, t_seq, kSq_n, kSq_t, kSq_r, kSq_b, t_nop, t_asg, kAs1_v, kAs1_r, kAs2_s, t_par, kPa1_v, kPa2_v, par_d, t_ret, kRt_v, kRt_r, t_exp, kEx_v, kEx_r, t_ite, kIt_t, kIt_f, kIt_r, t_rse, t_brk, t_try, kTr_r, kTr_n, kTr_t, t_for, kF1_v, kF1_r, kF2_s, fl_nil, fl_cons, kFL_n, kFL_t, kFL_r, kFL_b, s_for, kSF_s, List.getElem?_cons_zero, List.getElem?_cons_succ, List.set_cons_zero, List.set_cons_succ, List.length_cons, List.length_nil, List.cons_append, List.nil_append, b_add, b_sub, b_mul, b_fdiv, b_mod, c_lt, c_le, c_gt, c_ge, c_eq, c_ne, c_eqi, c_nei, l_tup, l_list, l_abs, sq_t, sq_l, i_t1_0, i_l1_0, i_t2_0, i_l2_0, i_t2_1, i_l2_1, i_t3_0, i_l3_0, i_t3_1, i_l3_1, i_t3_2, i_l3_2, i_t4_0, i_l4_0, i_t4_1, i_l4_1, i_t4_2, i_l4_2, i_t4_3, i_l4_3, i_t5_0, i_l5_0, i_t5_1, i_l5_1, i_t5_2, i_l5_2, i_t5_3, i_l5_3, i_t5_4, i_l5_4, i_t6_0, i_l6_0, i_t6_1, i_l6_1, i_t6_2, i_l6_2, i_t6_3, i_l6_3, i_t6_4, i_l6_4, i_t6_5, i_l6_5, bt_nm, wp_nil, wp_cons, List.replicate, Nat.reduceSub, List.append_nil, Int.reduceLT, Int.reduceLE, Int.reduceBEq, Int.reduceSub, decide_true, decide_false, Bool.not_true, Bool.not_false, Bool.not_not, e_rz, e_rz1, e_ok, e_nx, isc_e, ln0, ln1, ln2, ln3, ln4, lt2, lt4, if_true, if_false, reduceIte, Bool.false_eq_true, bt_nil_t, bt_cons_t, bt_nil_l, bt_cons_l, Option.bind, e_okC, t_asgM, kM1_l, kM2_t, kM1_r, nr_nil, nr_d, nr_u, nr_r, bq_0, bq_0a, bl_1, bl_1z, bl_2, bl_2z, bl_21, bl_c1, bl_c1z, bl_c1y, bl_c1x, bl_c2, bl_c2z, bl_c21, g_1, g_2, g_21, s_1, s_2, s_21, t_apd2, kAp3_u, kAp4_t, kP1_v, kP1_r, kP2_l, kP3_v, kP3_r, e_ok1, e_nx1, e_ok2, e_rz2, e_ok1c, e_ok2c, kC2_u, kC3_t, e_dsel, kD1_v, kD2_v, e_mth, kMt1_v, kMt2_l, kMt3_v, kMt4_s, l_any4, l_all4, ist_s0, ist_i0, tr_bl, is_nn, is_bn, is_in, is_tn, is_ln, is_sn, nb0, nc0, nb1, nc1, nb2, nc2, nb3, nc3, nb4, nc4, nb5, nc5, nb6, nc6, nb7, nc7, nb8, nc8, nb9, nc9, nb10, nc10, nb11, nc11, nb12, nc12, nb13, nc13, nb14, nc14, nb15, nc15, nb16, nc16, nb17, nc17, nb18, nc18, nb19, nc19, nb20, nc20, nb21, nc21, nb22, nc22, nb23, nc23, nb24, nc24, nb25, nc25, nb26, nc26, nb27, nc27, nb28, nc28, nb29, nc29, nb30, nc30, nb31, nc31, nb32, nc32, nb33, nc33, nb34, nc34, nb35, nc35, nb36, nc36, nb37, nc37, nb38, nc38, nb39, nc39, nb40, nc40, r1_0, r1_1, r1_2, r1_3, r1_4, r1_5, r1_6, rgl_1, rgl_2, rgl_3, rgl_4, md_1, md_2, md_3, md_4, qt0, qt1, qt2, qt3, Int.reduceMul, Int.reduceNeg, Int.reduceAdd, Nat.add_zero, Nat.reduceAdd, Bool.true_and, Bool.and_true, Bool.false_and, Bool.and_false, Bool.or_false, Bool.false_or]
        obtain ⟨r, s3', z, z1⟩ := lb_loop m lo md (.d (.int md)) h0 m1 h2 (by omega) bm (by omega)
        refine ⟨r, s3', ?_, z1⟩
        simp only [whlL, t1, t2]
        exact z
    · have d : decide (lo < hi) = false := decide_eq_false ht
      have t1 : evE LW c lbT [.d (.int N), .d (.int hi), .d (.int lo), s3] S = some (.v (.d (.bl false)), S) := by
        simp only [lbT, d, e_var, kV_d, kV_r, kVr_l, kVr_f, e_arg, kA_d, kA_r, e_lit, pk_d, pk_r, kPr_l, kPr_f, outD_s, outB_s, e_bin, kBin1_v, kBin1_r, kBin2_v, kBin2_r, kBin3_s, e_cmp, kCmp1_v, kCmp1_r, kCmp2_v, kCmp2_r, kCmp3_s, e_idx, kIdx1_v, kIdx1_r, kIdx2_v, kIdx2_r, kIdx3_s, e_neg, kNeg1_v, kNeg1_r, e_tru, kTru1_v, kTru1_r, kNeg2_s, kTru2_s, e_isc, kIsc1_v, kIsc1_r, kIsc2_s, e_and, kAnd_t, kAnd_f, kAnd_r, e_or, kOr_t, kOr_f, kOr_r, e_not, kNot_t, kNot_f, kNot_r, e_ifx, kIfx_t, kIfx_f, kIfx_r, e_chn, kCh1_v, kCh1_r, kCh2_v, kCh2_r, kChP_s, kChB_t, kChB_f, kCh3_v, kCh3_r, kCh4_s, e_nil, e_cons, kCs1_v, kCs1_r, kCs2_v, kCs2_r, e_tup, kTu1_v, kTu1_r, kTu2_0, kTu2_1, kTu2_2, kTu2_3, kTu2_4, kTu2_5, kTu2_6, kTu2_7, kTu2_8, e_lst, kLi1_v, kLi1_r, kLi2_0, kLi2_1, kLi2_2, kLi2_3, kLi2_4, kLi2_5, kLi2_6, kLi2_7, kLi2_8, datL, Option.map_some, e_call, kCa1_v, kCa1_r, kCa2_o, kCa2_r, e_blt, kBl1_v, kBl1_r, kBl2_s, pl_nil, pl_cons, kPL_s, e_rng1, kR1_v, e_rng2, kR2_v, kR2_r, kR2b_v, e_comp, kC1_v, kC1_r, cl_nil, cl_cons, kCL_y, kCL_n, s_step, kS1_s, kS2_t, kS2_f, kS3_v, t_seq, kSq_n, kSq_t, kSq_r, kSq_b, t_nop, t_asg, kAs1_v, kAs1_r, kAs2_s, t_par, kPa1_v, kPa2_v, par_d, t_ret, kRt_v, kRt_r, t_exp, kEx_v, kEx_r, t_ite, kIt_t, kIt_f, kIt_r, t_rse, t_brk, t_try, kTr_r, kTr_n, kTr_t, t_for, kF1_v, kF1_r, kF2_s, fl_nil, fl_cons, kFL_n, kFL_t, kFL_r, kFL_b, s_for, kSF_s, List.getElem?_cons_zero, List.getElem?_cons_succ, List.set_cons_zero, List.set_cons_succ, List.length_cons, List.length_nil, List.cons_append, List.nil_append, b_add, b_sub, b_mul, b_fdiv, b_mod, c_lt, c_le, c_gt, c_ge, c_eq, c_ne, c_eqi, c_nei, l_tup, l_list, l_abs, sq_t, sq_l, i_t1_0, i_l1_0, i_t2_0, i_l2_0, i_t2_1, i_l2_1, i_t3_0, i_l3_0, i_t3_1, i_l3_1, i_t3_2, i_l3_2, i_t4_0, i_l4_0, i_t4_1, i_l4_1, i_t4_2, i_l4_2, i_t4_3, i_l4_3, i_t5_0, i_l5_0, i_t5_1, i_l5_1, i_t5_2, i_l5_2, i_t5_3, i_l5_3, i_t5_4, i_l5_4, i_t6_0, i_l6_0, i_t6_1, i_l6_1, i_t6_2, i_l6_2, i_t6_3, i_l6_3, i_t6_4, i_l6_4, i_t6_5, i_l6_5, bt_nm, wp_nil, wp_cons, List.replicate, Nat.reduceSub, List.append_nil, Int.reduceLT, Int.reduceLE, Int.reduceBEq, Int.reduceSub, decide_true, decide_false, Bool.not_true, Bool.not_false, Bool.not_not, e_rz, e_rz1, e_ok, e_nx, isc_e, ln0, ln1, ln2, ln3, ln4, lt2, lt4, if_true, if_false, reduceIte, Bool.false_eq_true, bt_nil_t, bt_cons_t, bt_nil_l, bt_cons_l, Option.bind, e_okC, t_asgM, kM1_l, kM2_t, kM1_r, nr_nil, nr_d, nr_u, nr_r, bq_0, bq_0a, bl_1, bl_1z, bl_2, bl_2z, bl_21, bl_c1, bl_c1z, bl_c1y, bl_c1x, bl_c2, bl_c2z, bl_c21, g_1, g_2, g_21, s_1, s_2, s_21, t_apd2, kAp3_u, kAp4_t, kP1_v, kP1_r, kP2_l, kP3_v, kP3_r, e_ok1, e_nx1, e_ok2, e_rz2, e_ok1c, e_ok2c, kC2_u, kC3_t, e_dsel, kD1_v, kD2_v, e_mth, kMt1_v, kMt2_l, kMt3_v, kMt4_s, l_any4, l_all4, ist_s0, ist_i0, tr_bl, is_nn, is_bn, is_in, is_tn, is_ln, is_sn, nb0, nc0, nb1, nc1, nb2, nc2, nb3, nc3, nb4, nc4, nb5, nc5, nb6, nc6, nb7, nc7, nb8, nc8, nb9, nc9, nb10, nc10, nb11, nc11, nb12, nc12, nb13, nc13, nb14, nc14, nb15, nc15, nb16, nc16, nb17, nc17, nb18, nc18, nb19, nc19, nb20, nc20, nb21, nc21, nb22, nc22, nb23, nc23, nb24, nc24, nb25, nc25, nb26, nc26, nb27, nc27, nb28, nc28, nb29, nc29, nb30, nc30, nb31, nc31, nb32, nc32, nb33, nc33, nb34, nc34, nb35, nc35, nb36, nc36, nb37, nc37, nb38, nc38, nb39, nc39, nb40, nc40, r1_0, r1_1, r1_2, r1_3, r1_4, r1_5, r1_6, rgl_1, rgl_2, rgl_3, rgl_4, md_1, md_2, md_3, md_4, qt0, qt1, qt2, qt3, Int.reduceMul, Int.reduceNeg, Int.reduceAdd, Nat.add_zero, Nat.reduceAdd, Bool.true_and, Bool.and_true, Bool.false_and, Bool.and_false, Bool.or_false, Bool.false_or]
      have e : hi = lo := by omega
      subst e
      refine ⟨hi, s3, ?_, h0, h2, h3, hb⟩
      simp only [whlL, t1]
theorem root_of_hi {N r : Int} (h0 : 0 ≤ r) (h1 : r = 0 ∨ (r - 1) * (r - 1) < N) (h2 : N ≤ r * r) : RootIs N (if r * r = N then .int r else .non) := by
  split
  · rename_i e
    exact .yes r h0 e
  · rename_i e
    refine .no fun x hx => ?_
    rw [← abs_sq] at hx
    have hn : 0 ≤ (x.natAbs : Int) := by omega
    generalize (x.natAbs : Int) = y at *
    rcases Int.lt_trichotomy y r with w | w | w
    · rcases h1 with h1 | h1
      · omega
      · have := sq_le hn (show y ≤ r - 1 by omega); omega
    · subst w; exact e hx
    · have := sq_le h0 (show r ≤ y by omega); omega
theorem v_lroot {N : Int} (h0 : 0 ≤ N) (hb : Bd 990 N) : ∃ d, RootIs N d ∧ callE LW Pr (n + 1) 24 [.d (.int N)] S = some (.ok d, S) := by
  obtain ⟨f, y, y1, y2, y3⟩ := la_loop (S := S) (c := callE LW Pr n) (w := List.length S) (N := N) hb LF 1 (by decide) (by omega) (by
    rw [show 2 * N + 2 - 1 = 2 * N + 1 by omega]
    exact (Bd.add (Bd.mul Bd.two hb) Bd.one).mono (by decide))
  obtain ⟨r, s3', z, z1, z2, z3, z4⟩ := lb_loop (S := S) (c := callE LW Pr n) (w := List.length S) (N := N) LF 0 f .un (by decide) (by omega) (.inl rfl) y2 y3 (by
    rw [Int.sub_zero]
    exact y3.mono (show 1000 ≤ 9000 by decide))
  refine ⟨_, root_of_hi z1 z2 z3, ?_⟩
  have y : evT LW (callE LW Pr n) (List.length S) (.whl laT laB) [.d (.int N), .d (.int 1), .un, .un] S = some (.nx, [.d (.int N), .d (.int f), .un, .un], S) := y
  have z : evT LW (callE LW Pr n) (List.length S) (.whl lbT lbB) [.d (.int N), .d (.int f), .d (.int 0), .un] S = some (.nx, [.d (.int N), .d (.int r), .d (.int r), s3'], S) := z
  have e : i__law_root = .seq (.ite (.cmp .lt (.arg 0) (.lit (.int 0))) (.ret (.lit (.non))) .nop) (.seq (.asg (.nm 1) (.lit (.int 1))) (.seq (.whl laT laB) (.seq (.asg (.nm 2) (.lit (.int 0))) (.seq (.whl lbT lbB) (.ret (.ifx (.cmp .eq (.bin .mul (.arg 2) (.arg 2)) (.arg 0)) (.var 2) (.lit (.non)))))))) := rfl
  have d : decide (N < 0) = false := decide_eq_false (by omega)
  have sm := z4.sm (show 1000 ≤ 8000 by decide)
  by_cases hc : r * r = N
  · have bc : (r * r == N) = true := beq_iff_eq.mpr hc
    rw [if_pos hc]
    simp only [u__law_root, e, d, y, z, b_mul sm sm, bc, e_var, kV_d, kV_r, kVr_l, kVr_f, e_arg, kA_d, kA_r, e_lit, pk_d, pk_r, kPr_l, kPr_f, outD_s, outB_s, e_bin, kBin1_v, kBin1_r, kBin2_v, kBin2_r, kBin3_s, e_cmp, kCmp1_v, kCmp1_r, kCmp2_v, kCmp2_r, kCmp3_s, e_idx, kIdx1_v, kIdx1_r, kIdx2_v, kIdx2_r, kIdx3_s, e_neg, kNeg1_v, kNeg1_r, e_tru, kTru1_v, kTru1_r, kNeg2_s, kTru2_s, e_isc, kIsc1_v, kIsc1_r, kIsc2_s, e_and, kAnd_t, kAnd_f, kAnd_r, e_or, kOr_t, kOr_f, kOr_r, e_not, kNot_t, kNot_f, kNot_r, e_ifx, kIfx_t, kIfx_f, kIfx_r, e_chn, kCh1_v, kCh1_r, kCh2_v, kCh2_r, kChP_s, kChB_t, kChB_f, kCh3_v, kCh3_r, kCh4_s, e_nil, e_cons, kCs1_v, kCs1_r, kCs2_v, kCs2_r, e_tup, kTu1_v, kTu1_r, kTu2_0, kTu2_1, kTu2_2, kTu2_3, kTu2_4, kTu2_5, kTu2_6, kTu2_7, kTu2_8, e_lst, kLi1_v, kLi1_r, kLi2_0, kLi2_1, kLi2_2, kLi2_3, kLi2_4, kLi2_5, kLi2_6, kLi2_7, kLi2_8, datL, Option.map_some, e_call, kCa1_v, kCa1_r, kCa2_o, kCa2_r, e_blt, kBl1_v, kBl1_r, kBl2_s, pl_nil, pl_cons, kPL_s, e_rng1, kR1_v, e_rng2, kR2_v, kR2_r, kR2b_v, e_comp, kC1_v, kC1_r, cl_nil, cl_cons, kCL_y, kCL_n, s_step, kS1_s, kS2_t, kS2_f, kS3_v, t_seq, kSq_n, kSq_t, kSq_r, kSq_b, t_nop, t_asg, kAs1_v, kAs1_r, kAs2_s, t_par, kPa1_v, kPa2_v, par_d, t_ret, kRt_v, kRt_r, t_exp, kEx_v, kEx_r, t_ite, kIt_t, kIt_f, kIt_r, t_rse, t_brk, t_try, kTr_r, kTr_n, kTr_t, t_for, kF1_v, kF1_r, kF2_s, fl_nil, fl_cons, kFL_n, kFL_t, kFL_r, kFL_b, s_for, kSF_s, List.getElem?_cons_zero, List.getElem?_cons_succ, List.set_cons_zero, List.set_cons_succ, List.length_cons, List.length_nil, List.cons_append, List.nil_append, b_add, b_sub, b_mul, b_fdiv, b_mod, c_lt, c_le, c_gt, c_ge, c_eq, c_ne, c_eqi, c_nei, l_tup, l_list, l_abs, sq_t, sq_l, i_t1_0, i_l1_0, i_t2_0, i_l2_0, i_t2_1, i_l2_1, i_t3_0, i_l3_0, i_t3_1, i_l3_1, i_t3_2, i_l3_2, i_t4_0, i_l4_0, i_t4_1, i_l4_1, i_t4_2, i_l4_2, i_t4_3, i_l4_3, i_t5_0, i_l5_0, i_t5_1, i_l5_1, i_t5_2, i_l5_2, i_t5_3, i_l5_3, i_t5_4, i_l5_4, i_t6_0, i_l6_0, i_t6_1, i_l6_1, i_t6_2, i_l6_2, i_t6_3, i_l6_3, i_t6_4, i_l6_4, i_t6_5, i_l6_5, bt_nm, wp_nil, wp_cons, List.replicate, Nat.reduceSub, List.append_nil, Int.reduceLT, Int.reduceLE, Int.reduceBEq, Int.reduceSub, decide_true, decide_false, Bool.not_true, Bool.not_false, Bool.not_not, e_rz, e_rz1, e_ok, e_nx, isc_e, ln0, ln1, ln2, ln3, ln4, lt2, lt4, if_true, if_false, reduceIte, Bool.false_eq_true, bt_nil_t, bt_cons_t, bt_nil_l, bt_cons_l, Option.bind, e_okC, t_asgM, kM1_l, kM2_t, kM1_r, nr_nil, nr_d, nr_u, nr_r, bq_0, bq_0a, bl_1, bl_1z, bl_2, bl_2z, bl_21, bl_c1, bl_c1z, bl_c1y, bl_c1x, bl_c2, bl_c2z, bl_c21, g_1, g_2, g_21, s_1, s_2, s_21, t_apd2, kAp3_u, kAp4_t, kP1_v, kP1_r, kP2_l, kP3_v, kP3_r, e_ok1, e_nx1, e_ok2, e_rz2, e_ok1c, e_ok2c, kC2_u, kC3_t, e_dsel, kD1_v, kD2_v, e_mth, kMt1_v, kMt2_l, kMt3_v, kMt4_s, l_any4, l_all4, ist_s0, ist_i0, tr_bl, is_nn, is_bn, is_in, is_tn, is_ln, is_sn, nb0, nc0, nb1, nc1, nb2, nc2, nb3, nc3, nb4, nc4, nb5, nc5, nb6, nc6, nb7, nc7, nb8, nc8, nb9, nc9, nb10, nc10, nb11, nc11, nb12, nc12, nb13, nc13, nb14, nc14, nb15, nc15, nb16, nc16, nb17, nc17, nb18, nc18, nb19, nc19, nb20, nc20, nb21, nc21, nb22, nc22, nb23, nc23, nb24, nc24, nb25, nc25, nb26, nc26, nb27, nc27, nb28, nc28, nb29, nc29, nb30, nc30, nb31, nc31, nb32, nc32, nb33, nc33, nb34, nc34, nb35, nc35, nb36, nc36, nb37, nc37, nb38, nc38, nb39, nc39, nb40, nc40, r1_0, r1_1, r1_2, r1_3, r1_4, r1_5, r1_6, rgl_1, rgl_2, rgl_3, rgl_4, md_1, md_2, md_3, md_4, qt0, qt1, qt2, qt3, Int.reduceMul, Int.reduceNeg, Int.reduceAdd, Nat.add_zero, Nat.reduceAdd, Bool.true_and, Bool.and_true, Bool.false_and, Bool.and_false, Bool.or_false, Bool.false_or]
  · have bc : (r * r == N) = false := beq_eq_false_iff_ne.mpr hc
    rw [if_neg hc]
    simp only [u__law_root, e, d, y, z, b_mul sm sm, bc, e_var, kV_d, kV_r, kVr_l, kVr_f, e_arg, kA_d, kA_r, e_lit, pk_d, pk_r, kPr_l, kPr_f, outD_s, outB_s, e_bin, kBin1_v, kBin1_r, kBin2_v, kBin2_r, kBin3_s, e_cmp, kCmp1_v, kCmp1_r, kCmp2_v, kCmp2_r, kCmp3_s, e_idx, kIdx1_v, kIdx1_r, kIdx2_v, kIdx2_r, kIdx3_s, e_neg, kNeg1_v, kNeg1_r, e_tru, kTru1_v, kTru1_r, kNeg2_s, kTru2_s, e_isc, kIsc1_v, kIsc1_r, kIsc2_s, e_and, kAnd_t, kAnd_f, kAnd_r, e_or, kOr_t, kOr_f, kOr_r, e_not, kNot_t, kNot_f, kNot_r, e_ifx, kIfx_t, kIfx_f, kIfx_r, e_chn, kCh1_v, kCh1_r, kCh2_v, kCh2_r, kChP_s, kChB_t, kChB_f, kCh3_v, kCh3_r, kCh4_s, e_nil, e_cons, kCs1_v, kCs1_r, kCs2_v, kCs2_r, e_tup, kTu1_v, kTu1_r, kTu2_0, kTu2_1, kTu2_2, kTu2_3, kTu2_4, kTu2_5, kTu2_6, kTu2_7, kTu2_8, e_lst, kLi1_v, kLi1_r, kLi2_0, kLi2_1, kLi2_2, kLi2_3, kLi2_4, kLi2_5, kLi2_6, kLi2_7, kLi2_8, datL, Option.map_some, e_call, kCa1_v, kCa1_r, kCa2_o, kCa2_r, e_blt, kBl1_v, kBl1_r, kBl2_s, pl_nil, pl_cons, kPL_s, e_rng1, kR1_v, e_rng2, kR2_v, kR2_r, kR2b_v, e_comp, kC1_v, kC1_r, cl_nil, cl_cons, kCL_y, kCL_n, s_step, kS1_s, kS2_t, kS2_f, kS3_v, t_seq, kSq_n, kSq_t, kSq_r, kSq_b, t_nop, t_asg, kAs1_v, kAs1_r, kAs2_s, t_par, kPa1_v, kPa2_v, par_d, t_ret, kRt_v, kRt_r, t_exp, kEx_v, kEx_r, t_ite, kIt_t, kIt_f, kIt_r, t_rse, t_brk, t_try, kTr_r, kTr_n, kTr_t, t_for, kF1_v, kF1_r, kF2_s, fl_nil, fl_cons, kFL_n, kFL_t, kFL_r, kFL_b, s_for, kSF_s, List.getElem?_cons_zero, List.getElem?_cons_succ, List.set_cons_zero, List.set_cons_succ, List.length_cons, List.length_nil, List.cons_append, List.nil_append, b_add, b_sub, b_mul, b_fdiv, b_mod, c_lt, c_le, c_gt, c_ge, c_eq, c_ne, c_eqi, c_nei, l_tup, l_list, l_abs, sq_t, sq_l, i_t1_0, i_l1_0, i_t2_0, i_l2_0, i_t2_1, i_l2_1, i_t3_0, i_l3_0, i_t3_1, i_l3_1, i_t3_2, i_l3_2, i_t4_0, i_l4_0, i_t4_1, i_l4_1, i_t4_2, i_l4_2, i_t4_3, i_l4_3, i_t5_0, i_l5_0, i_t5_1, i_l5_1, i_t5_2, i_l5_2, i_t5_3, i_l5_3, i_t5_4, i_l5_4, i_t6_0, i_l6_0, i_t6_1, i_l6_1, i_t6_2, i_l6_2, i_t6_3, i_l6_3, i_t6_4, i_l6_4, i_t6_5, i_l6_5, bt_nm, wp_nil, wp_cons, List.replicate, Nat.reduceSub, List.append_nil, Int.reduceLT, Int.reduceLE, Int.reduceBEq, Int.reduceSub, decide_true, decide_false, Bool.not_true, Bool.not_false, Bool.not_not, e_rz, e_rz1, e_ok, e_nx, isc_e, ln0, ln1, ln2, ln3, ln4, lt2, lt4, if_true, if_false, reduceIte, Bool.false_eq_true, bt_nil_t, bt_cons_t, bt_nil_l, bt_cons_l, Option.bind, e_okC, t_asgM, kM1_l, kM2_t, kM1_r, nr_nil, nr_d, nr_u, nr_r, bq_0, bq_0a, bl_1, bl_1z, bl_2, bl_2z, bl_21, bl_c1, bl_c1z, bl_c1y, bl_c1x, bl_c2, bl_c2z, bl_c21, g_1, g_2, g_21, s_1, s_2, s_21, t_apd2, kAp3_u, kAp4_t, kP1_v, kP1_r, kP2_l, kP3_v, kP3_r, e_ok1, e_nx1, e_ok2, e_rz2, e_ok1c, e_ok2c, kC2_u, kC3_t, e_dsel, kD1_v, kD2_v, e_mth, kMt1_v, kMt2_l, kMt3_v, kMt4_s, l_any4, l_all4, ist_s0, ist_i0, tr_bl, is_nn, is_bn, is_in, is_tn, is_ln, is_sn, nb0, nc0, nb1, nc1, nb2, nc2, nb3, nc3, nb4, nc4, nb5, nc5, nb6, nc6, nb7, nc7, nb8, nc8, nb9, nc9, nb10, nc10, nb11, nc11, nb12, nc12, nb13, nc13, nb14, nc14, nb15, nc15, nb16, nc16, nb17, nc17, nb18, nc18, nb19, nc19, nb20, nc20, nb21, nc21, nb22, nc22, nb23, nc23, nb24, nc24, nb25, nc25, nb26, nc26, nb27, nc27, nb28, nc28, nb29, nc29, nb30, nc30, nb31, nc31, nb32, nc32, nb33, nc33, nb34, nc34, nb35, nc35, nb36, nc36, nb37, nc37, nb38, nc38, nb39, nc39, nb40, nc40, r1_0, r1_1, r1_2, r1_3, r1_4, r1_5, r1_6, rgl_1, rgl_2, rgl_3, rgl_4, md_1, md_2, md_3, md_4, qt0, qt1, qt2, qt3, Int.reduceMul, Int.reduceNeg, Int.reduceAdd, Nat.add_zero, Nat.reduceAdd, Bool.true_and, Bool.and_true, Bool.false_and, Bool.and_false, Bool.or_false, Bool.false_or]
end

end Lq

namespace Lq
open PySem PySem.Spec PyProof.Rows L2 Cm

theorem u_exchanging {n : Nat} {S : Sto} {s0 s1 : Sl} : callE LW Pr (n + 1) 11 [s0, s1] S = ends (List.length S) (evT LW (callE LW Pr n) (List.length S) i_exchanging [s0, s1, .un, .un, .un, .un, .un, .un] (S ++ [.dead])) := (call_1 (p := 2) (q := 8) rfl rfl)
theorem u__law_refusal {n : Nat} {S : Sto} {s0 : Sl} : callE LW Pr (n + 1) 18 [s0] S = ends (List.length S) (evT LW (callE LW Pr n) (List.length S) i__law_refusal [s0, .un] (S ++ [.dead])) := (call_1 (p := 1) (q := 2) rfl rfl)
theorem v_ref4 {n : Nat} {S : Sto} : callE LW Pr (n + 1) 18 [.d (.exc 4)] S = some (.ok (.tup [.str "refused", .str "none"]), S) := by
  have h1 : bltD LW (.isi 1) [.exc 4] = some (.bl false) := by kernel_rfl
  have h2 : bltD LW (.isi 2) [.exc 4] = some (.bl false) := by kernel_rfl
  have h3 : bltD LW (.isi 3) [.exc 4] = some (.bl false) := by kernel_rfl
  have h4 : bltD LW (.isi 4) [.exc 4] = some (.bl true) := by kernel_rfl
  have h5 : bltD LW (.isi 5) [.exc 4] = some (.bl false) := by kernel_rfl
  have h6 : bltD LW (.isi 6) [.exc 4] = some (.bl false) := by kernel_rfl
  have h7 : bltD LW (.isi 7) [.exc 4] = some (.bl false) := by kernel_rfl
  have h100 : bltD LW (.isi 100) [.exc 4] = some (.bl true) := by kernel_rfl
  have ad : binD .add (.lst [.bl false, .bl false, .bl false]) (.lst [.bl true, .bl false, .bl false]) = some (.lst [.bl false, .bl false, .bl false, .bl true, .bl false, .bl false]) := by kernel_rfl
  have cn : mthD .cnt (.lst [.bl false, .bl false, .bl false, .bl true, .bl false, .bl false, .bl false]) (.bl true) = some (.int 1) := by kernel_rfl
  have ix : mthD .ix (.lst [.bl false, .bl false, .bl false, .bl true, .bl false, .bl false, .bl false]) (.bl true) = some (.int 3) := by kernel_rfl
  have it : itemD (.lst [.str "circle", .str "point", .str "fraction", .str "none", .str "kiss", .str "number", .str "text"]) 3 = some (.str "none") := by kernel_rfl
  simp only [u__law_refusal, i__law_refusal, h1, h2, h3, h4, h5, h6, h7, h100, ad, cn, ix, it, e_var, kV_d, kV_r, kVr_l, kVr_f, e_arg, kA_d, kA_r, e_lit, pk_d, pk_r, kPr_l, kPr_f, outD_s, outB_s, e_bin, kBin1_v, kBin1_r, kBin2_v, kBin2_r, kBin3_s, e_cmp, kCmp1_v, kCmp1_r, kCmp2_v, kCmp2_r, kCmp3_s, e_idx, kIdx1_v, kIdx1_r, kIdx2_v, kIdx2_r, kIdx3_s, e_neg, kNeg1_v, kNeg1_r, e_tru, kTru1_v, kTru1_r, kNeg2_s, kTru2_s, e_isc, kIsc1_v, kIsc1_r, kIsc2_s, e_and, kAnd_t, kAnd_f, kAnd_r, e_or, kOr_t, kOr_f, kOr_r, e_not, kNot_t, kNot_f, kNot_r, e_ifx, kIfx_t, kIfx_f, kIfx_r, e_chn, kCh1_v, kCh1_r, kCh2_v, kCh2_r, kChP_s, kChB_t, kChB_f, kCh3_v, kCh3_r, kCh4_s, e_nil, e_cons, kCs1_v, kCs1_r, kCs2_v, kCs2_r, e_tup, kTu1_v, kTu1_r, kTu2_0, kTu2_1, kTu2_2, kTu2_3, kTu2_4, kTu2_5, kTu2_6, kTu2_7, kTu2_8, e_lst, kLi1_v, kLi1_r, kLi2_0, kLi2_1, kLi2_2, kLi2_3, kLi2_4, kLi2_5, kLi2_6, kLi2_7, kLi2_8, datL, Option.map_some, e_call, kCa1_v, kCa1_r, kCa2_o, kCa2_r, e_blt, kBl1_v, kBl1_r, kBl2_s, pl_nil, pl_cons, kPL_s, e_rng1, kR1_v, e_rng2, kR2_v, kR2_r, kR2b_v, e_comp, kC1_v, kC1_r, cl_nil, cl_cons, kCL_y, kCL_n, s_step, kS1_s, kS2_t, kS2_f, kS3_v, t_seq, kSq_n, kSq_t, kSq_r, kSq_b, t_nop, t_asg, kAs1_v, kAs1_r, kAs2_s, t_par, kPa1_v, kPa2_v, par_d, t_ret, kRt_v, kRt_r, t_exp, kEx_v, kEx_r, t_ite, kIt_t, kIt_f, kIt_r, t_rse, t_brk, t_try, kTr_r, kTr_n, kTr_t, t_for, kF1_v, kF1_r, kF2_s, fl_nil, fl_cons, kFL_n, kFL_t, kFL_r, kFL_b, s_for, kSF_s, List.getElem?_cons_zero, List.getElem?_cons_succ, List.set_cons_zero, List.set_cons_succ, List.length_cons, List.length_nil, List.cons_append, List.nil_append, b_add, b_sub, b_mul, b_fdiv, b_mod, c_lt, c_le, c_gt, c_ge, c_eq, c_ne, c_eqi, c_nei, l_tup, l_list, l_abs, sq_t, sq_l, i_t1_0, i_l1_0, i_t2_0, i_l2_0, i_t2_1, i_l2_1, i_t3_0, i_l3_0, i_t3_1, i_l3_1, i_t3_2, i_l3_2, i_t4_0, i_l4_0, i_t4_1, i_l4_1, i_t4_2, i_l4_2, i_t4_3, i_l4_3, i_t5_0, i_l5_0, i_t5_1, i_l5_1, i_t5_2, i_l5_2, i_t5_3, i_l5_3, i_t5_4, i_l5_4, i_t6_0, i_l6_0, i_t6_1, i_l6_1, i_t6_2, i_l6_2, i_t6_3, i_l6_3, i_t6_4, i_l6_4, i_t6_5, i_l6_5, bt_nm, wp_nil, wp_cons, List.replicate, Nat.reduceSub, List.append_nil, Int.reduceLT, Int.reduceLE, Int.reduceBEq, Int.reduceSub, decide_true, decide_false, Bool.not_true, Bool.not_false, Bool.not_not, e_rz, e_rz1, e_ok, e_nx, isc_e, ln0, ln1, ln2, ln3, ln4, lt2, lt4, if_true, if_false, reduceIte, Bool.false_eq_true, bt_nil_t, bt_cons_t, bt_nil_l, bt_cons_l, Option.bind, e_okC, t_asgM, kM1_l, kM2_t, kM1_r, nr_nil, nr_d, nr_u, nr_r, bq_0, bq_0a, bl_1, bl_1z, bl_2, bl_2z, bl_21, bl_c1, bl_c1z, bl_c1y, bl_c1x, bl_c2, bl_c2z, bl_c21, g_1, g_2, g_21, s_1, s_2, s_21, t_apd2, kAp3_u, kAp4_t, kP1_v, kP1_r, kP2_l, kP3_v, kP3_r, e_ok1, e_nx1, e_ok2, e_rz2, e_ok1c, e_ok2c, kC2_u, kC3_t, e_dsel, kD1_v, kD2_v, e_mth, kMt1_v, kMt2_l, kMt3_v, kMt4_s, l_any4, l_all4, ist_s0, ist_i0, tr_bl, is_nn, is_bn, is_in, is_tn, is_ln, is_sn, nb0, nc0, nb1, nc1, nb2, nc2, nb3, nc3, nb4, nc4, nb5, nc5, nb6, nc6, nb7, nc7, nb8, nc8, nb9, nc9, nb10, nc10, nb11, nc11, nb12, nc12, nb13, nc13, nb14, nc14, nb15, nc15, nb16, nc16, nb17, nc17, nb18, nc18, nb19, nc19, nb20, nc20, nb21, nc21, nb22, nc22, nb23, nc23, nb24, nc24, nb25, nc25, nb26, nc26, nb27, nc27, nb28, nc28, nb29, nc29, nb30, nc30, nb31, nc31, nb32, nc32, nb33, nc33, nb34, nc34, nb35, nc35, nb36, nc36, nb37, nc37, nb38, nc38, nb39, nc39, nb40, nc40, r1_0, r1_1, r1_2, r1_3, r1_4, r1_5, r1_6, rgl_1, rgl_2, rgl_3, rgl_4, md_1, md_2, md_3, md_4, qt0, qt1, qt2, qt3, Int.reduceMul, Int.reduceNeg, Int.reduceAdd, Nat.add_zero, Nat.reduceAdd, Bool.true_and, Bool.and_true, Bool.false_and, Bool.and_false, Bool.or_false, Bool.false_or]
theorem v_ref6 {n : Nat} {S : Sto} : callE LW Pr (n + 1) 18 [.d (.exc 6)] S = some (.ok (.tup [.str "refused", .str "number"]), S) := by
  have h1 : bltD LW (.isi 1) [.exc 6] = some (.bl false) := by kernel_rfl
  have h2 : bltD LW (.isi 2) [.exc 6] = some (.bl false) := by kernel_rfl
  have h3 : bltD LW (.isi 3) [.exc 6] = some (.bl false) := by kernel_rfl
  have h4 : bltD LW (.isi 4) [.exc 6] = some (.bl false) := by kernel_rfl
  have h5 : bltD LW (.isi 5) [.exc 6] = some (.bl false) := by kernel_rfl
  have h6 : bltD LW (.isi 6) [.exc 6] = some (.bl true) := by kernel_rfl
  have h7 : bltD LW (.isi 7) [.exc 6] = some (.bl false) := by kernel_rfl
  have h100 : bltD LW (.isi 100) [.exc 6] = some (.bl true) := by kernel_rfl
  have ad : binD .add (.lst [.bl false, .bl false, .bl false]) (.lst [.bl false, .bl false, .bl true]) = some (.lst [.bl false, .bl false, .bl false, .bl false, .bl false, .bl true]) := by kernel_rfl
  have cn : mthD .cnt (.lst [.bl false, .bl false, .bl false, .bl false, .bl false, .bl true, .bl false]) (.bl true) = some (.int 1) := by kernel_rfl
  have ix : mthD .ix (.lst [.bl false, .bl false, .bl false, .bl false, .bl false, .bl true, .bl false]) (.bl true) = some (.int 5) := by kernel_rfl
  have it : itemD (.lst [.str "circle", .str "point", .str "fraction", .str "none", .str "kiss", .str "number", .str "text"]) 5 = some (.str "number") := by kernel_rfl
  simp only [u__law_refusal, i__law_refusal, h1, h2, h3, h4, h5, h6, h7, h100, ad, cn, ix, it, e_var, kV_d, kV_r, kVr_l, kVr_f, e_arg, kA_d, kA_r, e_lit, pk_d, pk_r, kPr_l, kPr_f, outD_s, outB_s, e_bin, kBin1_v, kBin1_r, kBin2_v, kBin2_r, kBin3_s, e_cmp, kCmp1_v, kCmp1_r, kCmp2_v, kCmp2_r, kCmp3_s, e_idx, kIdx1_v, kIdx1_r, kIdx2_v, kIdx2_r, kIdx3_s, e_neg, kNeg1_v, kNeg1_r, e_tru, kTru1_v, kTru1_r, kNeg2_s, kTru2_s, e_isc, kIsc1_v, kIsc1_r, kIsc2_s, e_and, kAnd_t, kAnd_f, kAnd_r, e_or, kOr_t, kOr_f, kOr_r, e_not, kNot_t, kNot_f, kNot_r, e_ifx, kIfx_t, kIfx_f, kIfx_r, e_chn, kCh1_v, kCh1_r, kCh2_v, kCh2_r, kChP_s, kChB_t, kChB_f, kCh3_v, kCh3_r, kCh4_s, e_nil, e_cons, kCs1_v, kCs1_r, kCs2_v, kCs2_r, e_tup, kTu1_v, kTu1_r, kTu2_0, kTu2_1, kTu2_2, kTu2_3, kTu2_4, kTu2_5, kTu2_6, kTu2_7, kTu2_8, e_lst, kLi1_v, kLi1_r, kLi2_0, kLi2_1, kLi2_2, kLi2_3, kLi2_4, kLi2_5, kLi2_6, kLi2_7, kLi2_8, datL, Option.map_some, e_call, kCa1_v, kCa1_r, kCa2_o, kCa2_r, e_blt, kBl1_v, kBl1_r, kBl2_s, pl_nil, pl_cons, kPL_s, e_rng1, kR1_v, e_rng2, kR2_v, kR2_r, kR2b_v, e_comp, kC1_v, kC1_r, cl_nil, cl_cons, kCL_y, kCL_n, s_step, kS1_s, kS2_t, kS2_f, kS3_v, t_seq, kSq_n, kSq_t, kSq_r, kSq_b, t_nop, t_asg, kAs1_v, kAs1_r, kAs2_s, t_par, kPa1_v, kPa2_v, par_d, t_ret, kRt_v, kRt_r, t_exp, kEx_v, kEx_r, t_ite, kIt_t, kIt_f, kIt_r, t_rse, t_brk, t_try, kTr_r, kTr_n, kTr_t, t_for, kF1_v, kF1_r, kF2_s, fl_nil, fl_cons, kFL_n, kFL_t, kFL_r, kFL_b, s_for, kSF_s, List.getElem?_cons_zero, List.getElem?_cons_succ, List.set_cons_zero, List.set_cons_succ, List.length_cons, List.length_nil, List.cons_append, List.nil_append, b_add, b_sub, b_mul, b_fdiv, b_mod, c_lt, c_le, c_gt, c_ge, c_eq, c_ne, c_eqi, c_nei, l_tup, l_list, l_abs, sq_t, sq_l, i_t1_0, i_l1_0, i_t2_0, i_l2_0, i_t2_1, i_l2_1, i_t3_0, i_l3_0, i_t3_1, i_l3_1, i_t3_2, i_l3_2, i_t4_0, i_l4_0, i_t4_1, i_l4_1, i_t4_2, i_l4_2, i_t4_3, i_l4_3, i_t5_0, i_l5_0, i_t5_1, i_l5_1, i_t5_2, i_l5_2, i_t5_3, i_l5_3, i_t5_4, i_l5_4, i_t6_0, i_l6_0, i_t6_1, i_l6_1, i_t6_2, i_l6_2, i_t6_3, i_l6_3, i_t6_4, i_l6_4, i_t6_5, i_l6_5, bt_nm, wp_nil, wp_cons, List.replicate, Nat.reduceSub, List.append_nil, Int.reduceLT, Int.reduceLE, Int.reduceBEq, Int.reduceSub, decide_true, decide_false, Bool.not_true, Bool.not_false, Bool.not_not, e_rz, e_rz1, e_ok, e_nx, isc_e, ln0, ln1, ln2, ln3, ln4, lt2, lt4, if_true, if_false, reduceIte, Bool.false_eq_true, bt_nil_t, bt_cons_t, bt_nil_l, bt_cons_l, Option.bind, e_okC, t_asgM, kM1_l, kM2_t, kM1_r, nr_nil, nr_d, nr_u, nr_r, bq_0, bq_0a, bl_1, bl_1z, bl_2, bl_2z, bl_21, bl_c1, bl_c1z, bl_c1y, bl_c1x, bl_c2, bl_c2z, bl_c21, g_1, g_2, g_21, s_1, s_2, s_21, t_apd2, kAp3_u, kAp4_t, kP1_v, kP1_r, kP2_l, kP3_v, kP3_r, e_ok1, e_nx1, e_ok2, e_rz2, e_ok1c, e_ok2c, kC2_u, kC3_t, e_dsel, kD1_v, kD2_v, e_mth, kMt1_v, kMt2_l, kMt3_v, kMt4_s, l_any4, l_all4, ist_s0, ist_i0, tr_bl, is_nn, is_bn, is_in, is_tn, is_ln, is_sn, nb0, nc0, nb1, nc1, nb2, nc2, nb3, nc3, nb4, nc4, nb5, nc5, nb6, nc6, nb7, nc7, nb8, nc8, nb9, nc9, nb10, nc10, nb11, nc11, nb12, nc12, nb13, nc13, nb14, nc14, nb15, nc15, nb16, nc16, nb17, nc17, nb18, nc18, nb19, nc19, nb20, nc20, nb21, nc21, nb22, nc22, nb23, nc23, nb24, nc24, nb25, nc25, nb26, nc26, nb27, nc27, nb28, nc28, nb29, nc29, nb30, nc30, nb31, nc31, nb32, nc32, nb33, nc33, nb34, nc34, nb35, nc35, nb36, nc36, nb37, nc37, nb38, nc38, nb39, nc39, nb40, nc40, r1_0, r1_1, r1_2, r1_3, r1_4, r1_5, r1_6, rgl_1, rgl_2, rgl_3, rgl_4, md_1, md_2, md_3, md_4, qt0, qt1, qt2, qt3, Int.reduceMul, Int.reduceNeg, Int.reduceAdd, Nat.add_zero, Nat.reduceAdd, Bool.true_and, Bool.and_true, Bool.false_and, Bool.and_false, Bool.or_false, Bool.false_or]
def ql (p : Q) : D := .lst [.int p.a, .int p.b, .int p.c, .int p.d]
theorem is4l {p : Q} : Is4 (ql p) p.a p.b p.c p.d := is4L
def li (p : Q) : List Int := [p.a, p.b, p.c, p.d]
theorem li_inj {p q : Q} (h : li p = li q) : p = q := by
  unfold li at h
  simp only [List.cons.injEq, and_true] at h
  exact Q.ext h.1 h.2.1 h.2.2.1 h.2.2.2
theorem tupO_li {p : Q} : tupO (li p) = p.t := rfl
theorem srt1 {a : Q} : srtD [a.t] = some (.lst [a.t]) := rfl
theorem srt2 {a b : Q} : srtD [a.t, b.t] = some (.lst (if lexI (li b) (li a) = true then [b.t, a.t] else [a.t, b.t])) := by
  have e1 : intsD [a.t, b.t] = none := rfl
  have e2 : tupsI [a.t, b.t] = some [li a, li b] := rfl
  unfold srtD
  rw [e1, e2]
  show some (D.lst ((if lexI (li b) (li a) = true then [li b, li a] else [li a, li b]).map tupO)) = _
  split <;> rfl
theorem srt_ok (a b : Q) : ∃ x y : Q, ((x = a ∧ y = b) ∨ (x = b ∧ y = a)) ∧ srtD [a.t, b.t] = some (.lst [x.t, y.t]) ∧ srtD [x.t, y.t] = some (.lst [x.t, y.t]) := by
  cases h : lexI (li b) (li a) with
  | true =>
    refine ⟨b, a, .inr ⟨rfl, rfl⟩, ?_, ?_⟩
    · rw [srt2, h]; rfl
    · rw [srt2, lexI_asym _ _ h]; rfl
  | false =>
    refine ⟨a, b, .inl ⟨rfl, rfl⟩, ?_, ?_⟩
    · rw [srt2, h]; rfl
    · rw [srt2, h]; rfl
theorem nset1 {a : Q} : nsetD [a.t] = some (.int 1) := rfl
theorem nset2 {a b : Q} (h : a ≠ b) : nsetD [a.t, b.t] = some (.int 2) := by
  have e2 : tupsI [a.t, b.t] = some [li a, li b] := rfl
  unfold nsetD
  rw [e2]
  have hb : Nat.ble [a.t, b.t].length 60 = true := rfl
  have hc : ([li b] : List (List Int)).contains (li a) = false := by
    rw [Bool.eq_false_iff]
    intro z
    have z := List.contains_iff_mem.mp z
    simp only [List.mem_singleton] at z
    exact h (li_inj z)
  show (if Nat.ble [a.t, b.t].length 60 = true then some (D.int (nubI [li a, li b]).length) else none) = _
  rw [if_pos hb]
  have : nubI [li a, li b] = [li a, li b] := by
    show (if ([li b] : List (List Int)).contains (li a) = true then [li b] else [li a, li b]) = _
    rw [hc]; rfl
  rw [this]
  rfl
section
variable {n : Nat} {S : Sto} {p q : Q}
theorem v_ex_eq (hp : okQ p) (hq : okQ q) (h : deq p.t q.t = true) : callE LW Pr (n + 4) 11 [.d p.t, .d q.t] S = some (.rz 4, S) := by
  have ce := c_eq (plnQ (p := p)) (plnQ (p := q))
  simp only [u_exchanging, i_exchanging, v_lc hp, v_lc hq, ce, h, e_var, kV_d, kV_r, kVr_l, kVr_f, e_arg, kA_d, kA_r, e_lit, pk_d, pk_r, kPr_l, kPr_f, outD_s, outB_s, e_bin, kBin1_v, kBin1_r, kBin2_v, kBin2_r, kBin3_s, e_cmp, kCmp1_v, kCmp1_r, kCmp2_v, kCmp2_r, kCmp3_s, e_idx, kIdx1_v, kIdx1_r, kIdx2_v, kIdx2_r, kIdx3_s, e_neg, kNeg1_v, kNeg1_r, e_tru, kTru1_v, kTru1_r, kNeg2_s, kTru2_s, e_isc, kIsc1_v, kIsc1_r, kIsc2_s, e_and, kAnd_t, kAnd_f, kAnd_r, e_or, kOr_t, kOr_f, kOr_r, e_not, kNot_t, kNot_f, kNot_r, e_ifx, kIfx_t, kIfx_f, kIfx_r, e_chn, kCh1_v, kCh1_r, kCh2_v, kCh2_r, kChP_s, kChB_t, kChB_f, kCh3_v, kCh3_r, kCh4_s, e_nil, e_cons, kCs1_v, kCs1_r, kCs2_v, kCs2_r, e_tup, kTu1_v, kTu1_r, kTu2_0, kTu2_1, kTu2_2, kTu2_3, kTu2_4, kTu2_5, kTu2_6, kTu2_7, kTu2_8, e_lst, kLi1_v, kLi1_r, kLi2_0, kLi2_1, kLi2_2, kLi2_3, kLi2_4, kLi2_5, kLi2_6, kLi2_7, kLi2_8, datL, Option.map_some, e_call, kCa1_v, kCa1_r, kCa2_o, kCa2_r, e_blt, kBl1_v, kBl1_r, kBl2_s, pl_nil, pl_cons, kPL_s, e_rng1, kR1_v, e_rng2, kR2_v, kR2_r, kR2b_v, e_comp, kC1_v, kC1_r, cl_nil, cl_cons, kCL_y, kCL_n, s_step, kS1_s, kS2_t, kS2_f, kS3_v, t_seq, kSq_n, kSq_t, kSq_r, kSq_b, t_nop, t_asg, kAs1_v, kAs1_r, kAs2_s, t_par, kPa1_v, kPa2_v, par_d, t_ret, kRt_v, kRt_r, t_exp, kEx_v, kEx_r, t_ite, kIt_t, kIt_f, kIt_r, t_rse, t_brk, t_try, kTr_r, kTr_n, kTr_t, t_for, kF1_v, kF1_r, kF2_s, fl_nil, fl_cons, kFL_n, kFL_t, kFL_r, kFL_b, s_for, kSF_s, List.getElem?_cons_zero, List.getElem?_cons_succ, List.set_cons_zero, List.set_cons_succ, List.length_cons, List.length_nil, List.cons_append, List.nil_append, b_add, b_sub, b_mul, b_fdiv, b_mod, c_lt, c_le, c_gt, c_ge, c_eq, c_ne, c_eqi, c_nei, l_tup, l_list, l_abs, sq_t, sq_l, i_t1_0, i_l1_0, i_t2_0, i_l2_0, i_t2_1, i_l2_1, i_t3_0, i_l3_0, i_t3_1, i_l3_1, i_t3_2, i_l3_2, i_t4_0, i_l4_0, i_t4_1, i_l4_1, i_t4_2, i_l4_2, i_t4_3, i_l4_3, i_t5_0, i_l5_0, i_t5_1, i_l5_1, i_t5_2, i_l5_2, i_t5_3, i_l5_3, i_t5_4, i_l5_4, i_t6_0, i_l6_0, i_t6_1, i_l6_1, i_t6_2, i_l6_2, i_t6_3, i_l6_3, i_t6_4, i_l6_4, i_t6_5, i_l6_5, bt_nm, wp_nil, wp_cons, List.replicate, Nat.reduceSub, List.append_nil, Int.reduceLT, Int.reduceLE, Int.reduceBEq, Int.reduceSub, decide_true, decide_false, Bool.not_true, Bool.not_false, Bool.not_not, e_rz, e_rz1, e_ok, e_nx, isc_e, ln0, ln1, ln2, ln3, ln4, lt2, lt4, if_true, if_false, reduceIte, Bool.false_eq_true, bt_nil_t, bt_cons_t, bt_nil_l, bt_cons_l, Option.bind, e_okC, t_asgM, kM1_l, kM2_t, kM1_r, nr_nil, nr_d, nr_u, nr_r, bq_0, bq_0a, bl_1, bl_1z, bl_2, bl_2z, bl_21, bl_c1, bl_c1z, bl_c1y, bl_c1x, bl_c2, bl_c2z, bl_c21, g_1, g_2, g_21, s_1, s_2, s_21, t_apd2, kAp3_u, kAp4_t, kP1_v, kP1_r, kP2_l, kP3_v, kP3_r, e_ok1, e_nx1, e_ok2, e_rz2, e_ok1c, e_ok2c, kC2_u, kC3_t, e_dsel, kD1_v, kD2_v, e_mth, kMt1_v, kMt2_l, kMt3_v, kMt4_s, l_any4, l_all4, ist_s0, ist_i0, tr_bl, is_nn, is_bn, is_in, is_tn, is_ln, is_sn, nb0, nc0, nb1, nc1, nb2, nc2, nb3, nc3, nb4, nc4, nb5, nc5, nb6, nc6, nb7, nc7, nb8, nc8, nb9, nc9, nb10, nc10, nb11, nc11, nb12, nc12, nb13, nc13, nb14, nc14, nb15, nc15, nb16, nc16, nb17, nc17, nb18, nc18, nb19, nc19, nb20, nc20, nb21, nc21, nb22, nc22, nb23, nc23, nb24, nc24, nb25, nc25, nb26, nc26, nb27, nc27, nb28, nc28, nb29, nc29, nb30, nc30, nb31, nc31, nb32, nc32, nb33, nc33, nb34, nc34, nb35, nc35, nb36, nc36, nb37, nc37, nb38, nc38, nb39, nc39, nb40, nc40, r1_0, r1_1, r1_2, r1_3, r1_4, r1_5, r1_6, rgl_1, rgl_2, rgl_3, rgl_4, md_1, md_2, md_3, md_4, qt0, qt1, qt2, qt3, Int.reduceMul, Int.reduceNeg, Int.reduceAdd, Nat.add_zero, Nat.reduceAdd, Bool.true_and, Bool.and_true, Bool.false_and, Bool.and_false, Bool.or_false, Bool.false_or]
theorem root_bd {N d} (h : RootIs N d) (r : Int) (e : d = .int r) : 0 ≤ r ∧ r * r = N := by
  cases h with
  | yes r' h1 h2 => cases e; exact ⟨h1, h2⟩
  | no _ => cases e
theorem v_ex_no (hp : okQ p) (hq : okQ q) (h : deq p.t q.t = false) (hr : RootIs (p.pr p * q.pr q) .non) : callE LW Pr (n + 4) 11 [.d p.t, .d q.t] S = some (.rz 4, S) := by
  have ce := c_eq (plnQ (p := p)) (plnQ (p := q))
  have e1 := fun S => v_pr (n := n + 2) (S := S) (is4Q (p := p)) (is4Q (p := p)) (hp.bd.mono (by decide)) (hp.bd.mono (by decide))
  have e2 := fun S => v_pr (n := n + 2) (S := S) (is4Q (p := q)) (is4Q (p := q)) (hq.bd.mono (by decide)) (hq.bd.mono (by decide))
  have o1 := pr_bd hp.bd hp.bd
  have o2 := pr_bd hq.bd hq.bd
  have pp : 0 < p.pr p := hp.pr
  have pq : 0 < q.pr q := hq.pr
  have s1 := o1.sm (show 250 ≤ 8000 by decide)
  have s2 := o2.sm (show 250 ≤ 8000 by decide)
  have rt : ∀ S, callE LW Pr (n + 3) 2 [.d (.int (p.pr p * q.pr q))] S = some (.ok .non, S) := fun S => by
    obtain ⟨d, hd, ed⟩ := v_root (n := n + 2) (S := S) (N := p.pr p * q.pr q) (Int.le_of_lt (Int.mul_pos pp pq)) ((o1.mul o2).mono (by decide))
    rw [hd.uniq hr] at ed
    exact ed
  simp only [u_exchanging, i_exchanging, v_lc hp, v_lc hq, ce, h, e1, e2, b_mul s1 s2, rt, e_var, kV_d, kV_r, kVr_l, kVr_f, e_arg, kA_d, kA_r, e_lit, pk_d, pk_r, kPr_l, kPr_f, outD_s, outB_s, e_bin, kBin1_v, kBin1_r, kBin2_v, kBin2_r, kBin3_s, e_cmp, kCmp1_v, kCmp1_r, kCmp2_v, kCmp2_r, kCmp3_s, e_idx, kIdx1_v, kIdx1_r, kIdx2_v, kIdx2_r, kIdx3_s, e_neg, kNeg1_v, kNeg1_r, e_tru, kTru1_v, kTru1_r, kNeg2_s, kTru2_s, e_isc, kIsc1_v, kIsc1_r, kIsc2_s, e_and, kAnd_t, kAnd_f, kAnd_r, e_or, kOr_t, kOr_f, kOr_r, e_not, kNot_t, kNot_f, kNot_r, e_ifx, kIfx_t, kIfx_f, kIfx_r, e_chn, kCh1_v, kCh1_r, kCh2_v, kCh2_r, kChP_s, kChB_t, kChB_f, kCh3_v, kCh3_r, kCh4_s, e_nil, e_cons, kCs1_v, kCs1_r, kCs2_v, kCs2_r, e_tup, kTu1_v, kTu1_r, kTu2_0, kTu2_1, kTu2_2, kTu2_3, kTu2_4, kTu2_5, kTu2_6, kTu2_7, kTu2_8, e_lst, kLi1_v, kLi1_r, kLi2_0, kLi2_1, kLi2_2, kLi2_3, kLi2_4, kLi2_5, kLi2_6, kLi2_7, kLi2_8, datL, Option.map_some, e_call, kCa1_v, kCa1_r, kCa2_o, kCa2_r, e_blt, kBl1_v, kBl1_r, kBl2_s, pl_nil, pl_cons, kPL_s, e_rng1, kR1_v, e_rng2, kR2_v, kR2_r, kR2b_v, e_comp, kC1_v, kC1_r, cl_nil, cl_cons, kCL_y, kCL_n, s_step, kS1_s, kS2_t, kS2_f, kS3_v, t_seq, kSq_n, kSq_t, kSq_r, kSq_b, t_nop, t_asg, kAs1_v, kAs1_r, kAs2_s, t_par, kPa1_v, kPa2_v, par_d, t_ret, kRt_v, kRt_r, t_exp, kEx_v, kEx_r, t_ite, kIt_t, kIt_f, kIt_r, t_rse, t_brk, t_try, kTr_r, kTr_n, kTr_t, t_for, kF1_v, kF1_r, kF2_s, fl_nil, fl_cons, kFL_n, kFL_t, kFL_r, kFL_b, s_for, kSF_s, List.getElem?_cons_zero, List.getElem?_cons_succ, List.set_cons_zero, List.set_cons_succ, List.length_cons, List.length_nil, List.cons_append, List.nil_append, b_add, b_sub, b_mul, b_fdiv, b_mod, c_lt, c_le, c_gt, c_ge, c_eq, c_ne, c_eqi, c_nei, l_tup, l_list, l_abs, sq_t, sq_l, i_t1_0, i_l1_0, i_t2_0, i_l2_0, i_t2_1, i_l2_1, i_t3_0, i_l3_0, i_t3_1, i_l3_1, i_t3_2, i_l3_2, i_t4_0, i_l4_0, i_t4_1, i_l4_1, i_t4_2, i_l4_2, i_t4_3, i_l4_3, i_t5_0, i_l5_0, i_t5_1, i_l5_1, i_t5_2, i_l5_2, i_t5_3, i_l5_3, i_t5_4, i_l5_4, i_t6_0, i_l6_0, i_t6_1, i_l6_1, i_t6_2, i_l6_2, i_t6_3, i_l6_3, i_t6_4, i_l6_4, i_t6_5, i_l6_5, bt_nm, wp_nil, wp_cons, List.replicate, Nat.reduceSub, List.append_nil, Int.reduceLT, Int.reduceLE, Int.reduceBEq, Int.reduceSub, decide_true, decide_false, Bool.not_true, Bool.not_false, Bool.not_not, e_rz, e_rz1, e_ok, e_nx, isc_e, ln0, ln1, ln2, ln3, ln4, lt2, lt4, if_true, if_false, reduceIte, Bool.false_eq_true, bt_nil_t, bt_cons_t, bt_nil_l, bt_cons_l, Option.bind, e_okC, t_asgM, kM1_l, kM2_t, kM1_r, nr_nil, nr_d, nr_u, nr_r, bq_0, bq_0a, bl_1, bl_1z, bl_2, bl_2z, bl_21, bl_c1, bl_c1z, bl_c1y, bl_c1x, bl_c2, bl_c2z, bl_c21, g_1, g_2, g_21, s_1, s_2, s_21, t_apd2, kAp3_u, kAp4_t, kP1_v, kP1_r, kP2_l, kP3_v, kP3_r, e_ok1, e_nx1, e_ok2, e_rz2, e_ok1c, e_ok2c, kC2_u, kC3_t, e_dsel, kD1_v, kD2_v, e_mth, kMt1_v, kMt2_l, kMt3_v, kMt4_s, l_any4, l_all4, ist_s0, ist_i0, tr_bl, is_nn, is_bn, is_in, is_tn, is_ln, is_sn, nb0, nc0, nb1, nc1, nb2, nc2, nb3, nc3, nb4, nc4, nb5, nc5, nb6, nc6, nb7, nc7, nb8, nc8, nb9, nc9, nb10, nc10, nb11, nc11, nb12, nc12, nb13, nc13, nb14, nc14, nb15, nc15, nb16, nc16, nb17, nc17, nb18, nc18, nb19, nc19, nb20, nc20, nb21, nc21, nb22, nc22, nb23, nc23, nb24, nc24, nb25, nc25, nb26, nc26, nb27, nc27, nb28, nc28, nb29, nc29, nb30, nc30, nb31, nc31, nb32, nc32, nb33, nc33, nb34, nc34, nb35, nc35, nb36, nc36, nb37, nc37, nb38, nc38, nb39, nc39, nb40, nc40, r1_0, r1_1, r1_2, r1_3, r1_4, r1_5, r1_6, rgl_1, rgl_2, rgl_3, rgl_4, md_1, md_2, md_3, md_4, qt0, qt1, qt2, qt3, Int.reduceMul, Int.reduceNeg, Int.reduceAdd, Nat.add_zero, Nat.reduceAdd, Bool.true_and, Bool.and_true, Bool.false_and, Bool.and_false, Bool.or_false, Bool.false_or]
def fpl (R : Int) (p q : Q) : Q := tdQ (cmb R (p.pr p) p q)
theorem v_ex {R : Int} (hp : okQ p) (hq : okQ q) (h : deq p.t q.t = false) (hR : R * R = p.pr p * q.pr q) (h0 : 0 < R) (bR : Bd 30 R) : ∃ L : List Q, callE LW Pr (n + 4) 11 [.d p.t, .d q.t] S = some (.ok (.lst (L.map Q.t)), S) ∧ srtD (L.map Q.t) = some (.lst (L.map Q.t)) ∧
    ((0 - R < p.pr q ∧ p.pr q < R ∧ (L = [fpl R p q, fpl (0 - R) p q] ∨ L = [fpl (0 - R) p q, fpl R p q])) ∨ (R ≤ p.pr q ∧ L = [fpl (0 - R) p q]) ∨ (p.pr q ≤ 0 - R ∧ L = [fpl R p q])) := by
  have ce := c_eq (plnQ (p := p)) (plnQ (p := q))
  have e1 := fun S => v_pr (n := n + 2) (S := S) (is4Q (p := p)) (is4Q (p := p)) (hp.bd.mono (by decide)) (hp.bd.mono (by decide))
  have e2 := fun S => v_pr (n := n + 2) (S := S) (is4Q (p := q)) (is4Q (p := q)) (hq.bd.mono (by decide)) (hq.bd.mono (by decide))
  have o1 := pr_bd hp.bd hp.bd
  have o2 := pr_bd hq.bd hq.bd
  have pp : 0 < p.pr p := hp.pr
  have pq : 0 < q.pr q := hq.pr
  have s1 := o1.sm (show 250 ≤ 8000 by decide)
  have s2 := o2.sm (show 250 ≤ 8000 by decide)
  have rt : ∀ S, callE LW Pr (n + 3) 2 [.d (.int (p.pr p * q.pr q))] S = some (.ok (.int R), S) := fun S => by
    obtain ⟨d, hd, ed⟩ := v_root (n := n + 2) (S := S) (N := p.pr p * q.pr q) (Int.le_of_lt (Int.mul_pos pp pq)) ((o1.mul o2).mono (by decide))
    rw [hd.uniq (.yes R (by omega) hR)] at ed
    exact ed
  have hR2 : (0 - R) * (0 - R) = p.pr p * q.pr q := by rw [← hR]; grind
  have x1 := ex_pr hR
  have x2 := ex_pr hR2
  have c1 : 0 < (cmb R (p.pr p) p q).pr (cmb R (p.pr p) p q) ↔ p.pr q < R := by
    rw [x1]
    generalize p.pr q = m
    constructor
    · intro z
      rcases (show m < R ∨ R ≤ m by omega) with w | w
      · exact w
      · have : R * (R - m) ≤ 0 := Int.mul_nonpos_of_nonneg_of_nonpos (by omega) (by omega)
        have := Int.mul_nonpos_of_nonneg_of_nonpos (show 0 ≤ 2 * p.pr p by omega) this
        omega
    · intro z
      exact Int.mul_pos (by omega) (Int.mul_pos h0 (by omega))
  have c2 : 0 < (cmb (0 - R) (p.pr p) p q).pr (cmb (0 - R) (p.pr p) p q) ↔ 0 - R < p.pr q := by
    rw [x2]
    generalize p.pr q = m
    have e : (0 - R) * (0 - R - m) = R * (R + m) := by grind
    rw [e]
    constructor
    · intro z
      rcases (show 0 - R < m ∨ m ≤ 0 - R by omega) with w | w
      · exact w
      · have : R * (R + m) ≤ 0 := Int.mul_nonpos_of_nonneg_of_nonpos (by omega) (by omega)
        have := Int.mul_nonpos_of_nonneg_of_nonpos (show 0 ≤ 2 * p.pr p by omega) this
        omega
    · intro z
      exact Int.mul_pos (by omega) (Int.mul_pos h0 (by omega))
  have bp := hp.bd
  have bq := hq.bd
  obtain ⟨p1, p2, p3, p4⟩ := bp
  obtain ⟨q1, q2, q3, q4⟩ := bq
  have bR' : Bd 30 (0 - R) := bR.neg
  have cbd : ∀ {e : Int}, Bd 30 e → Bd4 900 (cmb e (p.pr p) p q).a (cmb e (p.pr p) p q).b (cmb e (p.pr p) p q).c (cmb e (p.pr p) p q).d := fun {e} be =>
    ⟨(Bd.sub (be.mul p1) (o1.mul q1)).mono (by decide), (Bd.sub (be.mul p2) (o1.mul q2)).mono (by decide), (Bd.sub (be.mul p3) (o1.mul q3)).mono (by decide), (Bd.sub (be.mul p4) (o1.mul q4)).mono (by decide)⟩
  have w1 := fun S => v_pr (n := n + 2) (S := S) (p := cmb R (p.pr p) p q) (q := cmb R (p.pr p) p q) is4l is4l ((cbd bR).mono (by decide)) ((cbd bR).mono (by decide))
  have w2 := fun S => v_pr (n := n + 2) (S := S) (p := cmb (0 - R) (p.pr p) p q) (q := cmb (0 - R) (p.pr p) p q) is4l is4l ((cbd bR').mono (by decide)) ((cbd bR').mono (by decide))
  have t1 : p.pr q < R → ∀ S, callE LW Pr (n + 3) 3 [.d (ql (cmb R (p.pr p) p q))] S = some (.ok (fpl R p q).t, S) := fun hh S => ev_tidy (n := n + 1) bs.hdv bs.htd is4l ((cbd bR).mono (by decide)) (fst4_ne (c1.mpr hh))
  have t2 : 0 - R < p.pr q → ∀ S, callE LW Pr (n + 3) 3 [.d (ql (cmb (0 - R) (p.pr p) p q))] S = some (.ok (fpl (0 - R) p q).t, S) := fun hh S => ev_tidy (n := n + 1) bs.hdv bs.htd is4l ((cbd bR').mono (by decide)) (fst4_ne (c2.mpr hh))
  have cm : ∀ (e : Int) (s4 s5 s6 s7 : Sl) (S : Sto), Bd 30 e → evE LW (callE LW Pr (n + 3)) (.comp [7] (.nm 7) (.rng1 (.lit (.int 4))) (.lit (.bl true)) (.bin .sub (.bin .mul (.arg 5) (.idx (.arg 0) (.arg 7))) (.bin .mul (.arg 3) (.idx (.arg 1) (.arg 7))))) [.d p.t, .d q.t, .d (.int R), .d (.int (p.pr p)), s4, .d (.int e), s6, s7] S = some (.v (.d (ql (cmb e (p.pr p) p q))), S) := fun e s4 s5 s6 s7 S be => by
    unfold ql cmb
    generalize p.pr p = P at *
    simp (disch := first | assumption | exact nbM0 | exact nbM1 | exact nbM2 | exact nbM3 | exact nbM4 | exact nbM5 | exact nbN0 | exact nbN1 | exact nbN5 | exact nbN6 | exact nbL4 | exact nbL2 | exact nbL3 | (apply Bd.sm; (· (repeat' first | assumption | exact nbM0 | exact nbM1 | exact nbM2 | exact nbM3 | exact nbM4 | exact nbM5 | exact nbN0 | exact nbN1 | exact nbN5 | exact nbN6 | exact Bd.two | exact Bd.one | exact Bd.four | exact Bd.zero | apply Bd.mul | apply Bd.add | apply Bd.sub)); (· decide))) only [e_var, kV_d, kV_r, kVr_l, kVr_f, e_arg, kA_d, kA_r, e_lit, pk_d, pk_r, kPr_l, kPr_f, outD_s, outB_s, e_bin, kBin1_v, kBin1_r, kBin2_v, kBin2_r, kBin3_s, e_cmp, kCmp1_v, kCmp1_r, kCmp2_v, kCmp2_r, kCmp3_s, e_idx, kIdx1_v, kIdx1_r, kIdx2_v, kIdx2_r, kIdx3_s, e_neg, kNeg1_v, kNeg1_r, e_tru, kTru1_v, kTru1_r, kNeg2_s, kTru2_s, e_isc, kIsc1_v, kIsc1_r, kIsc2_s, e_and, kAnd_t, kAnd_f, kAnd_r, e_or, kOr_t, kOr_f, kOr_r, e_not, kNot_t, kNot_f, kNot_r, e_ifx, kIfx_t, kIfx_f, kIfx_r, e_chn, kCh1_v, kCh1_r, kCh2_v, kCh2_r, kChP_s, kChB_t, kChB_f, kCh3_v, kCh3_r, kCh4_s, e_nil, e_cons, kCs1_v, kCs1_r, kCs2_v, kCs2_r, e_tup, kTu1_v, kTu1_r, kTu2_0, kTu2_1, kTu2_2, kTu2_3, kTu2_4, kTu2_5, kTu2_6, kTu2_7, kTu2_8, e_lst, kLi1_v, kLi1_r, kLi2_0, kLi2_1, kLi2_2, kLi2_3, kLi2_4, kLi2_5, kLi2_6, kLi2_7, kLi2_8, datL, Option.map_some, e_call, kCa1_v, kCa1_r, kCa2_o, kCa2_r, e_blt, kBl1_v, kBl1_r, kBl2_s, pl_nil, pl_cons, kPL_s, e_rng1, kR1_v, e_rng2, kR2_v, kR2_r, kR2b_v, e_comp, kC1_v, kC1_r, cl_nil, cl_cons, kCL_y, kCL_n, s_step, kS1_s, kS2_t, kS2_f, kS3_v, t_seq, kSq_n, kSq_t, kSq_r, kSq_b, t_nop, t_asg, kAs1_v, kAs1_r, kAs2_s, t_par, kPa1_v, kPa2_v, par_d, t_ret, kRt_v, kRt_r, t_exp, kEx_v, kEx_r, t_ite, kIt_t, kIt_f, kIt_r, t_rse, t_brk, t_try, kTr_r, kTr_n, kTr_t, t_for, kF1_v, kF1_r, kF2_s, fl_nil, fl_cons, kFL_n, kFL_t, kFL_r, kFL_b, s_for, kSF_s, List.getElem?_cons_zero, List.getElem?_cons_succ, List.set_cons_zero, List.set_cons_succ, List.length_cons, List.length_nil, List.cons_append, List.nil_append, b_add, b_sub, b_mul, b_fdiv, b_mod, c_lt, c_le, c_gt, c_ge, c_eq, c_ne, c_eqi, c_nei, l_tup, l_list, l_abs, sq_t, sq_l, i_t1_0, i_l1_0, i_t2_0, i_l2_0, i_t2_1, i_l2_1, i_t3_0, i_l3_0, i_t3_1, i_l3_1, i_t3_2, i_l3_2, i_t4_0, i_l4_0, i_t4_1, i_l4_1, i_t4_2, i_l4_2, i_t4_3, i_l4_3, i_t5_0, i_l5_0, i_t5_1, i_l5_1, i_t5_2, i_l5_2, i_t5_3, i_l5_3, i_t5_4, i_l5_4, i_t6_0, i_l6_0, i_t6_1, i_l6_1, i_t6_2, i_l6_2, i_t6_3, i_l6_3, i_t6_4, i_l6_4, i_t6_5, i_l6_5, bt_nm, wp_nil, wp_cons, List.replicate, Nat.reduceSub, List.append_nil, Int.reduceLT, Int.reduceLE, Int.reduceBEq, Int.reduceSub, decide_true, decide_false, Bool.not_true, Bool.not_false, Bool.not_not, e_rz, e_rz1, e_ok, e_nx, isc_e, ln0, ln1, ln2, ln3, ln4, lt2, lt4, if_true, if_false, reduceIte, Bool.false_eq_true, bt_nil_t, bt_cons_t, bt_nil_l, bt_cons_l, Option.bind, e_okC, t_asgM, kM1_l, kM2_t, kM1_r, nr_nil, nr_d, nr_u, nr_r, bq_0, bq_0a, bl_1, bl_1z, bl_2, bl_2z, bl_21, bl_c1, bl_c1z, bl_c1y, bl_c1x, bl_c2, bl_c2z, bl_c21, g_1, g_2, g_21, s_1, s_2, s_21, t_apd2, kAp3_u, kAp4_t, kP1_v, kP1_r, kP2_l, kP3_v, kP3_r, e_ok1, e_nx1, e_ok2, e_rz2, e_ok1c, e_ok2c, kC2_u, kC3_t, e_dsel, kD1_v, kD2_v, e_mth, kMt1_v, kMt2_l, kMt3_v, kMt4_s, l_any4, l_all4, ist_s0, ist_i0, tr_bl, is_nn, is_bn, is_in, is_tn, is_ln, is_sn, nb0, nc0, nb1, nc1, nb2, nc2, nb3, nc3, nb4, nc4, nb5, nc5, nb6, nc6, nb7, nc7, nb8, nc8, nb9, nc9, nb10, nc10, nb11, nc11, nb12, nc12, nb13, nc13, nb14, nc14, nb15, nc15, nb16, nc16, nb17, nc17, nb18, nc18, nb19, nc19, nb20, nc20, nb21, nc21, nb22, nc22, nb23, nc23, nb24, nc24, nb25, nc25, nb26, nc26, nb27, nc27, nb28, nc28, nb29, nc29, nb30, nc30, nb31, nc31, nb32, nc32, nb33, nc33, nb34, nc34, nb35, nc35, nb36, nc36, nb37, nc37, nb38, nc38, nb39, nc39, nb40, nc40, r1_0, r1_1, r1_2, r1_3, r1_4, r1_5, r1_6, rgl_1, rgl_2, rgl_3, rgl_4, md_1, md_2, md_3, md_4, qt0, qt1, qt2, qt3, Int.reduceMul, Int.reduceNeg, Int.reduceAdd, Nat.add_zero, Nat.reduceAdd, Bool.true_and, Bool.and_true, Bool.false_and, Bool.and_false, Bool.or_false, Bool.false_or]
  have cm1 := fun s4 s6 s7 S => cm R s4 .un s6 s7 S bR
  have cm2 := fun s4 s6 s7 S => cm (0 - R) s4 .un s6 s7 S bR'
  clear cm
  generalize p.pr q = m at *
  by_cases h1 : m < R
  · have d1 : decide (0 < (cmb R (p.pr p) p q).pr (cmb R (p.pr p) p q)) = true := decide_eq_true (c1.mpr h1)
    have t1 := t1 h1
    by_cases h2 : 0 - R < m
    · have d2 : decide (0 < (cmb (0 - R) (p.pr p) p q).pr (cmb (0 - R) (p.pr p) p q)) = true := decide_eq_true (c2.mpr h2)
      have t2 := t2 h2
      obtain ⟨x, y, hxy, k1, k2⟩ := srt_ok (fpl R p q) (fpl (0 - R) p q)
      have bs' : bltD LW .srt [.lst [(fpl R p q).t, (fpl (0 - R) p q).t]] = some (.lst [x.t, y.t]) := k1
      refine ⟨[x, y], ?_, k2, .inl ⟨h2, h1, ?_⟩⟩
      · simp only [u_exchanging, i_exchanging, v_lc hp, v_lc hq, ce, h, e1, e2, b_mul s1 s2, rt, cm1, cm2, w1, w2, d1, d2, t1, t2, bs', e_var, kV_d, kV_r, kVr_l, kVr_f, e_arg, kA_d, kA_r, e_lit, pk_d, pk_r, kPr_l, kPr_f, outD_s, outB_s, e_bin, kBin1_v, kBin1_r, kBin2_v, kBin2_r, kBin3_s, e_cmp, kCmp1_v, kCmp1_r, kCmp2_v, kCmp2_r, kCmp3_s, e_idx, kIdx1_v, kIdx1_r, kIdx2_v, kIdx2_r, kIdx3_s, e_neg, kNeg1_v, kNeg1_r, e_tru, kTru1_v, kTru1_r, kNeg2_s, kTru2_s, e_isc, kIsc1_v, kIsc1_r, kIsc2_s, e_and, kAnd_t, kAnd_f, kAnd_r, e_or, kOr_t, kOr_f, kOr_r, e_not, kNot_t, kNot_f, kNot_r, e_ifx, kIfx_t, kIfx_f, kIfx_r, e_chn, kCh1_v, kCh1_r, kCh2_v, kCh2_r, kChP_s, kChB_t, kChB_f, kCh3_v, kCh3_r, kCh4_s, e_nil, e_cons, kCs1_v, kCs1_r, kCs2_v, kCs2_r, e_tup, kTu1_v, kTu1_r, kTu2_0, kTu2_1, kTu2_2, kTu2_3, kTu2_4, kTu2_5, kTu2_6, kTu2_7, kTu2_8, e_lst, kLi1_v, kLi1_r, kLi2_0, kLi2_1, kLi2_2, kLi2_3, kLi2_4, kLi2_5, kLi2_6, kLi2_7, kLi2_8, datL, Option.map_some, e_call, kCa1_v, kCa1_r, kCa2_o, kCa2_r, e_blt, kBl1_v, kBl1_r, kBl2_s, pl_nil, pl_cons, kPL_s, e_rng1, kR1_v, e_rng2, kR2_v, kR2_r, kR2b_v, e_comp, kC1_v, kC1_r, cl_nil, cl_cons, kCL_y, kCL_n, s_step, kS1_s, kS2_t, kS2_f, kS3_v, t_seq, kSq_n, kSq_t, kSq_r, kSq_b, t_nop, t_asg, kAs1_v, kAs1_r, kAs2_s, t_par, kPa1_v, kPa2_v, par_d, t_ret, kRt_v, kRt_r, t_exp, kEx_v, kEx_r, t_ite, kIt_t, kIt_f, kIt_r, t_rse, t_brk, t_try, kTr_r, kTr_n, kTr_t, t_for, kF1_v, kF1_r, kF2_s, fl_nil, fl_cons, kFL_n, kFL_t, kFL_r, kFL_b, s_for, kSF_s, List.getElem?_cons_zero, List.getElem?_cons_succ, List.set_cons_zero, List.set_cons_succ, List.length_cons, List.length_nil, List.cons_append, List.nil_append, b_add, b_sub, b_mul, b_fdiv, b_mod, c_lt, c_le, c_gt, c_ge, c_eq, c_ne, c_eqi, c_nei, l_tup, l_list, l_abs, sq_t, sq_l, i_t1_0, i_l1_0, i_t2_0, i_l2_0, i_t2_1, i_l2_1, i_t3_0, i_l3_0, i_t3_1, i_l3_1, i_t3_2, i_l3_2, i_t4_0, i_l4_0, i_t4_1, i_l4_1, i_t4_2, i_l4_2, i_t4_3, i_l4_3, i_t5_0, i_l5_0, i_t5_1, i_l5_1, i_t5_2, i_l5_2, i_t5_3, i_l5_3, i_t5_4, i_l5_4, i_t6_0, i_l6_0, i_t6_1, i_l6_1, i_t6_2, i_l6_2, i_t6_3, i_l6_3, i_t6_4, i_l6_4, i_t6_5, i_l6_5, bt_nm, wp_nil, wp_cons, List.replicate, Nat.reduceSub, List.append_nil, Int.reduceLT, Int.reduceLE, Int.reduceBEq, Int.reduceSub, decide_true, decide_false, Bool.not_true, Bool.not_false, Bool.not_not, e_rz, e_rz1, e_ok, e_nx, isc_e, ln0, ln1, ln2, ln3, ln4, lt2, lt4, if_true, if_false, reduceIte, Bool.false_eq_true, bt_nil_t, bt_cons_t, bt_nil_l, bt_cons_l, Option.bind, e_okC, t_asgM, kM1_l, kM2_t, kM1_r, nr_nil, nr_d, nr_u, nr_r, bq_0, bq_0a, bl_1, bl_1z, bl_2, bl_2z, bl_21, bl_c1, bl_c1z, bl_c1y, bl_c1x, bl_c2, bl_c2z, bl_c21, g_1, g_2, g_21, s_1, s_2, s_21, t_apd2, kAp3_u, kAp4_t, kP1_v, kP1_r, kP2_l, kP3_v, kP3_r, e_ok1, e_nx1, e_ok2, e_rz2, e_ok1c, e_ok2c, kC2_u, kC3_t, e_dsel, kD1_v, kD2_v, e_mth, kMt1_v, kMt2_l, kMt3_v, kMt4_s, l_any4, l_all4, ist_s0, ist_i0, tr_bl, is_nn, is_bn, is_in, is_tn, is_ln, is_sn, nb0, nc0, nb1, nc1, nb2, nc2, nb3, nc3, nb4, nc4, nb5, nc5, nb6, nc6, nb7, nc7, nb8, nc8, nb9, nc9, nb10, nc10, nb11, nc11, nb12, nc12, nb13, nc13, nb14, nc14, nb15, nc15, nb16, nc16, nb17, nc17, nb18, nc18, nb19, nc19, nb20, nc20, nb21, nc21, nb22, nc22, nb23, nc23, nb24, nc24, nb25, nc25, nb26, nc26, nb27, nc27, nb28, nc28, nb29, nc29, nb30, nc30, nb31, nc31, nb32, nc32, nb33, nc33, nb34, nc34, nb35, nc35, nb36, nc36, nb37, nc37, nb38, nc38, nb39, nc39, nb40, nc40, r1_0, r1_1, r1_2, r1_3, r1_4, r1_5, r1_6, rgl_1, rgl_2, rgl_3, rgl_4, md_1, md_2, md_3, md_4, qt0, qt1, qt2, qt3, Int.reduceMul, Int.reduceNeg, Int.reduceAdd, Nat.add_zero, Nat.reduceAdd, Bool.true_and, Bool.and_true, Bool.false_and, Bool.and_false, Bool.or_false, Bool.false_or]
        rfl
      · rcases hxy with ⟨rfl, rfl⟩ | ⟨rfl, rfl⟩
        · exact .inl rfl
        · exact .inr rfl
    · have d2 : decide (0 < (cmb (0 - R) (p.pr p) p q).pr (cmb (0 - R) (p.pr p) p q)) = false := decide_eq_false fun z => h2 (c2.mp z)
      have bs' : bltD LW .srt [.lst [(fpl R p q).t]] = some (.lst [(fpl R p q).t]) := srt1
      refine ⟨[fpl R p q], ?_, srt1, .inr (.inr ⟨by omega, rfl⟩)⟩
      simp only [u_exchanging, i_exchanging, v_lc hp, v_lc hq, ce, h, e1, e2, b_mul s1 s2, rt, cm1, cm2, w1, w2, d1, d2, t1, bs', e_var, kV_d, kV_r, kVr_l, kVr_f, e_arg, kA_d, kA_r, e_lit, pk_d, pk_r, kPr_l, kPr_f, outD_s, outB_s, e_bin, kBin1_v, kBin1_r, kBin2_v, kBin2_r, kBin3_s, e_cmp, kCmp1_v, kCmp1_r, kCmp2_v, kCmp2_r, kCmp3_s, e_idx, kIdx1_v, kIdx1_r, kIdx2_v, kIdx2_r, kIdx3_s, e_neg, kNeg1_v, kNeg1_r, e_tru, kTru1_v, kTru1_r, kNeg2_s, kTru2_s, e_isc, kIsc1_v, kIsc1_r, kIsc2_s, e_and, kAnd_t, kAnd_f, kAnd_r, e_or, kOr_t, kOr_f, kOr_r, e_not, kNot_t, kNot_f, kNot_r, e_ifx, kIfx_t, kIfx_f, kIfx_r, e_chn, kCh1_v, kCh1_r, kCh2_v, kCh2_r, kChP_s, kChB_t, kChB_f, kCh3_v, kCh3_r, kCh4_s, e_nil, e_cons, kCs1_v, kCs1_r, kCs2_v, kCs2_r, e_tup, kTu1_v, kTu1_r, kTu2_0, kTu2_1, kTu2_2, kTu2_3, kTu2_4, kTu2_5, kTu2_6, kTu2_7, kTu2_8, e_lst, kLi1_v, kLi1_r, kLi2_0, kLi2_1, kLi2_2, kLi2_3, kLi2_4, kLi2_5, kLi2_6, kLi2_7, kLi2_8, datL, Option.map_some, e_call, kCa1_v, kCa1_r, kCa2_o, kCa2_r, e_blt, kBl1_v, kBl1_r, kBl2_s, pl_nil, pl_cons, kPL_s, e_rng1, kR1_v, e_rng2, kR2_v, kR2_r, kR2b_v, e_comp, kC1_v, kC1_r, cl_nil, cl_cons, kCL_y, kCL_n, s_step, kS1_s, kS2_t, kS2_f, kS3_v, t_seq, kSq_n, kSq_t, kSq_r, kSq_b, t_nop, t_asg, kAs1_v, kAs1_r, kAs2_s, t_par, kPa1_v, kPa2_v, par_d, t_ret, kRt_v, kRt_r, t_exp, kEx_v, kEx_r, t_ite, kIt_t, kIt_f, kIt_r, t_rse, t_brk, t_try, kTr_r, kTr_n, kTr_t, t_for, kF1_v, kF1_r, kF2_s, fl_nil, fl_cons, kFL_n, kFL_t, kFL_r, kFL_b, s_for, kSF_s, List.getElem?_cons_zero, List.getElem?_cons_succ, List.set_cons_zero, List.set_cons_succ, List.length_cons, List.length_nil, List.cons_append, List.nil_append, b_add, b_sub, b_mul, b_fdiv, b_mod, c_lt, c_le, c_gt, c_ge, c_eq, c_ne, c_eqi, c_nei, l_tup, l_list, l_abs, sq_t, sq_l, i_t1_0, i_l1_0, i_t2_0, i_l2_0, i_t2_1, i_l2_1, i_t3_0, i_l3_0, i_t3_1, i_l3_1, i_t3_2, i_l3_2, i_t4_0, i_l4_0, i_t4_1, i_l4_1, i_t4_2, i_l4_2, i_t4_3, i_l4_3, i_t5_0, i_l5_0, i_t5_1, i_l5_1, i_t5_2, i_l5_2, i_t5_3, i_l5_3, i_t5_4, i_l5_4, i_t6_0, i_l6_0, i_t6_1, i_l6_1, i_t6_2, i_l6_2, i_t6_3, i_l6_3, i_t6_4, i_l6_4, i_t6_5, i_l6_5, bt_nm, wp_nil, wp_cons, List.replicate, Nat.reduceSub, List.append_nil, Int.reduceLT, Int.reduceLE, Int.reduceBEq, Int.reduceSub, decide_true, decide_false, Bool.not_true, Bool.not_false, Bool.not_not, e_rz, e_rz1, e_ok, e_nx, isc_e, ln0, ln1, ln2, ln3, ln4, lt2, lt4, if_true, if_false, reduceIte, Bool.false_eq_true, bt_nil_t, bt_cons_t, bt_nil_l, bt_cons_l, Option.bind, e_okC, t_asgM, kM1_l, kM2_t, kM1_r, nr_nil, nr_d, nr_u, nr_r, bq_0, bq_0a, bl_1, bl_1z, bl_2, bl_2z, bl_21, bl_c1, bl_c1z, bl_c1y, bl_c1x, bl_c2, bl_c2z, bl_c21, g_1, g_2, g_21, s_1, s_2, s_21, t_apd2, kAp3_u, kAp4_t, kP1_v, kP1_r, kP2_l, kP3_v, kP3_r, e_ok1, e_nx1, e_ok2, e_rz2, e_ok1c, e_ok2c, kC2_u, kC3_t, e_dsel, kD1_v, kD2_v, e_mth, kMt1_v, kMt2_l, kMt3_v, kMt4_s, l_any4, l_all4, ist_s0, ist_i0, tr_bl, is_nn, is_bn, is_in, is_tn, is_ln, is_sn, nb0, nc0, nb1, nc1, nb2, nc2, nb3, nc3, nb4, nc4, nb5, nc5, nb6, nc6, nb7, nc7, nb8, nc8, nb9, nc9, nb10, nc10, nb11, nc11, nb12, nc12, nb13, nc13, nb14, nc14, nb15, nc15, nb16, nc16, nb17, nc17, nb18, nc18, nb19, nc19, nb20, nc20, nb21, nc21, nb22, nc22, nb23, nc23, nb24, nc24, nb25, nc25, nb26, nc26, nb27, nc27, nb28, nc28, nb29, nc29, nb30, nc30, nb31, nc31, nb32, nc32, nb33, nc33, nb34, nc34, nb35, nc35, nb36, nc36, nb37, nc37, nb38, nc38, nb39, nc39, nb40, nc40, r1_0, r1_1, r1_2, r1_3, r1_4, r1_5, r1_6, rgl_1, rgl_2, rgl_3, rgl_4, md_1, md_2, md_3, md_4, qt0, qt1, qt2, qt3, Int.reduceMul, Int.reduceNeg, Int.reduceAdd, Nat.add_zero, Nat.reduceAdd, Bool.true_and, Bool.and_true, Bool.false_and, Bool.and_false, Bool.or_false, Bool.false_or]
      rfl
  · have d1 : decide (0 < (cmb R (p.pr p) p q).pr (cmb R (p.pr p) p q)) = false := decide_eq_false fun z => h1 (c1.mp z)
    have h2 : 0 - R < m := by omega
    have d2 : decide (0 < (cmb (0 - R) (p.pr p) p q).pr (cmb (0 - R) (p.pr p) p q)) = true := decide_eq_true (c2.mpr h2)
    have t2 := t2 h2
    have bs' : bltD LW .srt [.lst [(fpl (0 - R) p q).t]] = some (.lst [(fpl (0 - R) p q).t]) := srt1
    refine ⟨[fpl (0 - R) p q], ?_, srt1, .inr (.inl ⟨by omega, rfl⟩)⟩
    simp only [u_exchanging, i_exchanging, v_lc hp, v_lc hq, ce, h, e1, e2, b_mul s1 s2, rt, cm1, cm2, w1, w2, d1, d2, t2, bs', e_var, kV_d, kV_r, kVr_l, kVr_f, e_arg, kA_d, kA_r, e_lit, pk_d, pk_r, kPr_l, kPr_f, outD_s, outB_s, e_bin, kBin1_v, kBin1_r, kBin2_v, kBin2_r, kBin3_s, e_cmp, kCmp1_v, kCmp1_r, kCmp2_v, kCmp2_r, kCmp3_s, e_idx, kIdx1_v, kIdx1_r, kIdx2_v, kIdx2_r, kIdx3_s, e_neg, kNeg1_v, kNeg1_r, e_tru, kTru1_v, kTru1_r, kNeg2_s, kTru2_s, e_isc, kIsc1_v, kIsc1_r, kIsc2_s, e_and, kAnd_t, kAnd_f, kAnd_r, e_or, kOr_t, kOr_f, kOr_r, e_not, kNot_t, kNot_f, kNot_r, e_ifx, kIfx_t, kIfx_f, kIfx_r, e_chn, kCh1_v, kCh1_r, kCh2_v, kCh2_r, kChP_s, kChB_t, kChB_f, kCh3_v, kCh3_r, kCh4_s, e_nil, e_cons, kCs1_v, kCs1_r, kCs2_v, kCs2_r, e_tup, kTu1_v, kTu1_r, kTu2_0, kTu2_1, kTu2_2, kTu2_3, kTu2_4, kTu2_5, kTu2_6, kTu2_7, kTu2_8, e_lst, kLi1_v, kLi1_r, kLi2_0, kLi2_1, kLi2_2, kLi2_3, kLi2_4, kLi2_5, kLi2_6, kLi2_7, kLi2_8, datL, Option.map_some, e_call, kCa1_v, kCa1_r, kCa2_o, kCa2_r, e_blt, kBl1_v, kBl1_r, kBl2_s, pl_nil, pl_cons, kPL_s, e_rng1, kR1_v, e_rng2, kR2_v, kR2_r, kR2b_v, e_comp, kC1_v, kC1_r, cl_nil, cl_cons, kCL_y, kCL_n, s_step, kS1_s, kS2_t, kS2_f, kS3_v, t_seq, kSq_n, kSq_t, kSq_r, kSq_b, t_nop, t_asg, kAs1_v, kAs1_r, kAs2_s, t_par, kPa1_v, kPa2_v, par_d, t_ret, kRt_v, kRt_r, t_exp, kEx_v, kEx_r, t_ite, kIt_t, kIt_f, kIt_r, t_rse, t_brk, t_try, kTr_r, kTr_n, kTr_t, t_for, kF1_v, kF1_r, kF2_s, fl_nil, fl_cons, kFL_n, kFL_t, kFL_r, kFL_b, s_for, kSF_s, List.getElem?_cons_zero, List.getElem?_cons_succ, List.set_cons_zero, List.set_cons_succ, List.length_cons, List.length_nil, List.cons_append, List.nil_append, b_add, b_sub, b_mul, b_fdiv, b_mod, c_lt, c_le, c_gt, c_ge, c_eq, c_ne, c_eqi, c_nei, l_tup, l_list, l_abs, sq_t, sq_l, i_t1_0, i_l1_0, i_t2_0, i_l2_0, i_t2_1, i_l2_1, i_t3_0, i_l3_0, i_t3_1, i_l3_1, i_t3_2, i_l3_2, i_t4_0, i_l4_0, i_t4_1, i_l4_1, i_t4_2, i_l4_2, i_t4_3, i_l4_3, i_t5_0, i_l5_0, i_t5_1, i_l5_1, i_t5_2, i_l5_2, i_t5_3, i_l5_3, i_t5_4, i_l5_4, i_t6_0, i_l6_0, i_t6_1, i_l6_1, i_t6_2, i_l6_2, i_t6_3, i_l6_3, i_t6_4, i_l6_4, i_t6_5, i_l6_5, bt_nm, wp_nil, wp_cons, List.replicate, Nat.reduceSub, List.append_nil, Int.reduceLT, Int.reduceLE, Int.reduceBEq, Int.reduceSub, decide_true, decide_false, Bool.not_true, Bool.not_false, Bool.not_not, e_rz, e_rz1, e_ok, e_nx, isc_e, ln0, ln1, ln2, ln3, ln4, lt2, lt4, if_true, if_false, reduceIte, Bool.false_eq_true, bt_nil_t, bt_cons_t, bt_nil_l, bt_cons_l, Option.bind, e_okC, t_asgM, kM1_l, kM2_t, kM1_r, nr_nil, nr_d, nr_u, nr_r, bq_0, bq_0a, bl_1, bl_1z, bl_2, bl_2z, bl_21, bl_c1, bl_c1z, bl_c1y, bl_c1x, bl_c2, bl_c2z, bl_c21, g_1, g_2, g_21, s_1, s_2, s_21, t_apd2, kAp3_u, kAp4_t, kP1_v, kP1_r, kP2_l, kP3_v, kP3_r, e_ok1, e_nx1, e_ok2, e_rz2, e_ok1c, e_ok2c, kC2_u, kC3_t, e_dsel, kD1_v, kD2_v, e_mth, kMt1_v, kMt2_l, kMt3_v, kMt4_s, l_any4, l_all4, ist_s0, ist_i0, tr_bl, is_nn, is_bn, is_in, is_tn, is_ln, is_sn, nb0, nc0, nb1, nc1, nb2, nc2, nb3, nc3, nb4, nc4, nb5, nc5, nb6, nc6, nb7, nc7, nb8, nc8, nb9, nc9, nb10, nc10, nb11, nc11, nb12, nc12, nb13, nc13, nb14, nc14, nb15, nc15, nb16, nc16, nb17, nc17, nb18, nc18, nb19, nc19, nb20, nc20, nb21, nc21, nb22, nc22, nb23, nc23, nb24, nc24, nb25, nc25, nb26, nc26, nb27, nc27, nb28, nc28, nb29, nc29, nb30, nc30, nb31, nc31, nb32, nc32, nb33, nc33, nb34, nc34, nb35, nc35, nb36, nc36, nb37, nc37, nb38, nc38, nb39, nc39, nb40, nc40, r1_0, r1_1, r1_2, r1_3, r1_4, r1_5, r1_6, rgl_1, rgl_2, rgl_3, rgl_4, md_1, md_2, md_3, md_4, qt0, qt1, qt2, qt3, Int.reduceMul, Int.reduceNeg, Int.reduceAdd, Nat.add_zero, Nat.reduceAdd, Bool.true_and, Bool.and_true, Bool.false_and, Bool.and_false, Bool.or_false, Bool.false_or]
    rfl
end

end Lq

namespace Lq
open PySem PySem.Spec PyProof.Rows L2 Cm

def cbB : T := (.seq (.asg (.nm 4) (.call 3 (.cons (.call 6 (.cons (.call 6 (.cons (.arg 4) (.cons (.arg 1) .nil))) (.cons (.arg 2) .nil))) .nil))) (.ite (.cmp .eq (.arg 4) (.arg 0)) (.ret (.var 5)) .nop))
def lcB : T := (.seq (.asg (.nm 9) (.call 23 (.cons (.call 23 (.cons (.arg 9) (.cons (.arg 5) .nil))) (.cons (.arg 6) .nil)))) (.ite (.and (.isc (.arg 8) .non true) (.cmp .eq (.arg 9) (.arg 2))) (.asg (.nm 8) (.bin .add (.arg 10) (.lit (.int 1)))) .nop))
theorem mirB {n : Nat} {S : Sto} {x : D} {p g : Q} (hx : Is4 x p.a p.b p.c p.d) (bp : Bd4 620 p.a p.b p.c p.d) (bg : Bd4 4 g.a g.b g.c g.d) : callE LW Pr (n + 2) 6 [.d x, .d g.t] S = some (.ok (ql (p.mir g)), S) := by
  have e1 := v_pr (n := n) (S := S) (is4Q (p := g)) (is4Q (p := g)) (bg.mono (by decide)) (bg.mono (by decide))
  have e2 := v_pr (n := n) (S := S) hx (is4Q (p := g)) (bp.mono (by decide)) (bg.mono (by decide))
  obtain ⟨p1, p2, p3, p4⟩ := bp
  obtain ⟨g1, g2, g3, g4⟩ := bg
  have o1 : Bd 60 (g.pr g) := Bd.mono (Bd.sub (Bd.sub (Bd.add (Bd.mul g2 g2) (Bd.mul g3 g3)) (Bd.mul (Bd.mul Bd.two g1) g4)) (Bd.mul (Bd.mul Bd.two g4) g1)) (by decide)
  have o2 : Bd 2600 (p.pr g) := Bd.mono (Bd.sub (Bd.sub (Bd.add (Bd.mul p2 g2) (Bd.mul p3 g3)) (Bd.mul (Bd.mul Bd.two p1) g4)) (Bd.mul (Bd.mul Bd.two p4) g1)) (by decide)
  unfold ql Q.mir
  generalize g.pr g = G at *
  generalize p.pr g = m at *
  simp (disch := first | assumption | exact nbM0 | exact nbM1 | exact nbM2 | exact nbM3 | exact nbM4 | exact nbM5 | exact nbN0 | exact nbN1 | exact nbN5 | exact nbN6 | exact nbL4 | exact nbL2 | exact nbL3 | (apply Bd.sm; (· (repeat' first | assumption | exact nbM0 | exact nbM1 | exact nbM2 | exact nbM3 | exact nbM4 | exact nbM5 | exact nbN0 | exact nbN1 | exact nbN5 | exact nbN6 | exact Bd.two | exact Bd.one | exact Bd.four | exact Bd.zero | apply Bd.mul | apply Bd.add | apply Bd.sub)); (· decide))) only [u_mirror, i_mirror, e1, e2, hx.i0, hx.i1, hx.i2, hx.i3, e_var, kV_d, kV_r, kVr_l, kVr_f, e_arg, kA_d, kA_r, e_lit, pk_d, pk_r, kPr_l, kPr_f, outD_s, outB_s, e_bin, kBin1_v, kBin1_r, kBin2_v, kBin2_r, kBin3_s, e_cmp, kCmp1_v, kCmp1_r, kCmp2_v, kCmp2_r, kCmp3_s, e_idx, kIdx1_v, kIdx1_r, kIdx2_v, kIdx2_r, kIdx3_s, e_neg, kNeg1_v, kNeg1_r, e_tru, kTru1_v, kTru1_r, kNeg2_s, kTru2_s, e_isc, kIsc1_v, kIsc1_r, kIsc2_s, e_and, kAnd_t, kAnd_f, kAnd_r, e_or, kOr_t, kOr_f, kOr_r, e_not, kNot_t, kNot_f, kNot_r, e_ifx, kIfx_t, kIfx_f, kIfx_r, e_chn, kCh1_v, kCh1_r, kCh2_v, kCh2_r, kChP_s, kChB_t, kChB_f, kCh3_v, kCh3_r, kCh4_s, e_nil, e_cons, kCs1_v, kCs1_r, kCs2_v, kCs2_r, e_tup, kTu1_v, kTu1_r, kTu2_0, kTu2_1, kTu2_2, kTu2_3, kTu2_4, kTu2_5, kTu2_6, kTu2_7, kTu2_8, e_lst, kLi1_v, kLi1_r, kLi2_0, kLi2_1, kLi2_2, kLi2_3, kLi2_4, kLi2_5, kLi2_6, kLi2_7, kLi2_8, datL, Option.map_some, e_call, kCa1_v, kCa1_r, kCa2_o, kCa2_r, e_blt, kBl1_v, kBl1_r, kBl2_s, pl_nil, pl_cons, kPL_s, e_rng1, kR1_v, e_rng2, kR2_v, kR2_r, kR2b_v, e_comp, kC1_v, kC1_r, cl_nil, cl_cons, kCL_y, kCL_n, s_step, kS1_s, kS2_t, kS2_f, kS3_v, t_seq, kSq_n, kSq_t, kSq_r, kSq_b, t_nop, t_asg, kAs1_v, kAs1_r, kAs2_s, t_par, kPa1_v, kPa2_v, par_d, t_ret, kRt_v, kRt_r, t_exp, kEx_v, kEx_r, t_ite, kIt_t, kIt_f, kIt_r, t_rse, t_brk, t_try, kTr_r, kTr_n, kTr_t, t_for, kF1_v, kF1_r, kF2_s, fl_nil, fl_cons, kFL_n, kFL_t, kFL_r, kFL_b, s_for, kSF_s, List.getElem?_cons_zero, List.getElem?_cons_succ, List.set_cons_zero, List.set_cons_succ, List.length_cons, List.length_nil, List.cons_append, List.nil_append, b_add, b_sub, b_mul, b_fdiv, b_mod, c_lt, c_le, c_gt, c_ge, c_eq, c_ne, c_eqi, c_nei, l_tup, l_list, l_abs, sq_t, sq_l, i_t1_0, i_l1_0, i_t2_0, i_l2_0, i_t2_1, i_l2_1, i_t3_0, i_l3_0, i_t3_1, i_l3_1, i_t3_2, i_l3_2, i_t4_0, i_l4_0, i_t4_1, i_l4_1, i_t4_2, i_l4_2, i_t4_3, i_l4_3, i_t5_0, i_l5_0, i_t5_1, i_l5_1, i_t5_2, i_l5_2, i_t5_3, i_l5_3, i_t5_4, i_l5_4, i_t6_0, i_l6_0, i_t6_1, i_l6_1, i_t6_2, i_l6_2, i_t6_3, i_l6_3, i_t6_4, i_l6_4, i_t6_5, i_l6_5, bt_nm, wp_nil, wp_cons, List.replicate, Nat.reduceSub, List.append_nil, Int.reduceLT, Int.reduceLE, Int.reduceBEq, Int.reduceSub, decide_true, decide_false, Bool.not_true, Bool.not_false, Bool.not_not, e_rz, e_rz1, e_ok, e_nx, isc_e, ln0, ln1, ln2, ln3, ln4, lt2, lt4, if_true, if_false, reduceIte, Bool.false_eq_true, bt_nil_t, bt_cons_t, bt_nil_l, bt_cons_l, Option.bind, e_okC, t_asgM, kM1_l, kM2_t, kM1_r, nr_nil, nr_d, nr_u, nr_r, bq_0, bq_0a, bl_1, bl_1z, bl_2, bl_2z, bl_21, bl_c1, bl_c1z, bl_c1y, bl_c1x, bl_c2, bl_c2z, bl_c21, g_1, g_2, g_21, s_1, s_2, s_21, t_apd2, kAp3_u, kAp4_t, kP1_v, kP1_r, kP2_l, kP3_v, kP3_r, e_ok1, e_nx1, e_ok2, e_rz2, e_ok1c, e_ok2c, kC2_u, kC3_t, e_dsel, kD1_v, kD2_v, e_mth, kMt1_v, kMt2_l, kMt3_v, kMt4_s, l_any4, l_all4, ist_s0, ist_i0, tr_bl, is_nn, is_bn, is_in, is_tn, is_ln, is_sn, nb0, nc0, nb1, nc1, nb2, nc2, nb3, nc3, nb4, nc4, nb5, nc5, nb6, nc6, nb7, nc7, nb8, nc8, nb9, nc9, nb10, nc10, nb11, nc11, nb12, nc12, nb13, nc13, nb14, nc14, nb15, nc15, nb16, nc16, nb17, nc17, nb18, nc18, nb19, nc19, nb20, nc20, nb21, nc21, nb22, nc22, nb23, nc23, nb24, nc24, nb25, nc25, nb26, nc26, nb27, nc27, nb28, nc28, nb29, nc29, nb30, nc30, nb31, nc31, nb32, nc32, nb33, nc33, nb34, nc34, nb35, nc35, nb36, nc36, nb37, nc37, nb38, nc38, nb39, nc39, nb40, nc40, r1_0, r1_1, r1_2, r1_3, r1_4, r1_5, r1_6, rgl_1, rgl_2, rgl_3, rgl_4, md_1, md_2, md_3, md_4, qt0, qt1, qt2, qt3, Int.reduceMul, Int.reduceNeg, Int.reduceAdd, Nat.add_zero, Nat.reduceAdd, Bool.true_and, Bool.and_true, Bool.false_and, Bool.and_false, Bool.or_false, Bool.false_or]
theorem mirBd {p g : Q} (bp : Bd4 620 p.a p.b p.c p.d) (bg : Bd4 4 g.a g.b g.c g.d) : Bd4 4000 (p.mir g).a (p.mir g).b (p.mir g).c (p.mir g).d := by
  obtain ⟨p1, p2, p3, p4⟩ := bp
  obtain ⟨g1, g2, g3, g4⟩ := bg
  have o1 : Bd 60 (g.pr g) := Bd.mono (Bd.sub (Bd.sub (Bd.add (Bd.mul g2 g2) (Bd.mul g3 g3)) (Bd.mul (Bd.mul Bd.two g1) g4)) (Bd.mul (Bd.mul Bd.two g4) g1)) (by decide)
  have o2 : Bd 2600 (p.pr g) := Bd.mono (Bd.sub (Bd.sub (Bd.add (Bd.mul p2 g2) (Bd.mul p3 g3)) (Bd.mul (Bd.mul Bd.two p1) g4)) (Bd.mul (Bd.mul Bd.two p4) g1)) (by decide)
  exact ⟨Bd.mono (Bd.sub (Bd.mul o1 p1) (Bd.mul (Bd.mul Bd.two o2) g1)) (by decide), Bd.mono (Bd.sub (Bd.mul o1 p2) (Bd.mul (Bd.mul Bd.two o2) g2)) (by decide), Bd.mono (Bd.sub (Bd.mul o1 p3) (Bd.mul (Bd.mul Bd.two o2) g3)) (by decide), Bd.mono (Bd.sub (Bd.mul o1 p4) (Bd.mul (Bd.mul Bd.two o2) g4)) (by decide)⟩
/-- once mirrored, tidied -/
def tm (p g : Q) : Q := tdQ (p.mir g)
theorem tm_ok {m : Nat} {p g : Q} (hp : okS m p) (hg : okS 7 g) : okS (882 * m) (tm p g) := by
  have l := mir_le hp.le hg.le
  rw [show 6 * (7 * 7) * m + 2 * (6 * (m * 7)) * 7 = 882 * m by omega] at l
  exact (tdQ_ok l (mir_pos hp.pr hg.pr)).1
theorem b7 {g : Q} (hg : okS 7 g) : Bd4 4 g.a g.b g.c g.d := hg.le.bd (by decide)
section
variable {n : Nat} {S : Sto} {p g : Q}
theorem v_tm (bp : Bd4 620 p.a p.b p.c p.d) (pp : 0 < p.pr p) (hg : okS 7 g) : callE LW Pr (n + 2) 6 [.d p.t, .d g.t] S = some (.ok (ql (p.mir g)), S) ∧ callE LW Pr (n + 2) 3 [.d (ql (p.mir g))] S = some (.ok (tm p g).t, S) :=
  ⟨mirB is4Q bp (b7 hg), ev_tidy (n := n) bs.hdv bs.htd is4l ((mirBd bp (b7 hg)).mono (by decide)) (fst4_ne (mir_pos pp hg.pr))⟩
theorem v_lm (bp : Bd4 620 p.a p.b p.c p.d) (pp : 0 < p.pr p) (hg : okS 7 g) : callE LW Pr (n + 2) 23 [.d p.t, .d g.t] S = some (.ok (tm p g).t, S) := by
  have bg := b7 hg
  have e1 : callE LW Pr (n + 1) 19 [.d g.t, .d g.t] S = some (.ok (.int (g.pr g)), S) := ev_lproduct ls.hlp .d .d is4T is4T (bg.mono (by decide)) (bg.mono (by decide))
  have e2 : callE LW Pr (n + 1) 19 [.d p.t, .d g.t] S = some (.ok (.int (p.pr g)), S) := ev_lproduct ls.hlp .d .d is4T is4T (bp.mono (by decide)) (bg.mono (by decide))
  have e3 : callE LW Pr (n + 1) 20 [.d (ql (p.mir g))] S = some (.ok (tm p g).t, S) := ev_ltidy (n := n) ls.hlt is4l ((mirBd bp bg).mono (by decide)) (fst4_ne (mir_pos pp hg.pr))
  obtain ⟨p1, p2, p3, p4⟩ := bp
  obtain ⟨g1, g2, g3, g4⟩ := bg
  have o1 : Bd 60 (g.pr g) := Bd.mono (Bd.sub (Bd.sub (Bd.add (Bd.mul g2 g2) (Bd.mul g3 g3)) (Bd.mul (Bd.mul Bd.two g1) g4)) (Bd.mul (Bd.mul Bd.two g4) g1)) (by decide)
  have o2 : Bd 2600 (p.pr g) := Bd.mono (Bd.sub (Bd.sub (Bd.add (Bd.mul p2 g2) (Bd.mul p3 g3)) (Bd.mul (Bd.mul Bd.two p1) g4)) (Bd.mul (Bd.mul Bd.two p4) g1)) (by decide)
  unfold ql Q.mir at e3
  generalize hG : g.pr g = G at *
  generalize hm : p.pr g = m at *
  simp (disch := first | assumption | exact nbM0 | exact nbM1 | exact nbM2 | exact nbM3 | exact nbM4 | exact nbM5 | exact nbN0 | exact nbN1 | exact nbN5 | exact nbN6 | exact nbL4 | exact nbL2 | exact nbL3 | (apply Bd.sm; (· (repeat' first | assumption | exact nbM0 | exact nbM1 | exact nbM2 | exact nbM3 | exact nbM4 | exact nbM5 | exact nbN0 | exact nbN1 | exact nbN5 | exact nbN6 | exact Bd.two | exact Bd.one | exact Bd.four | exact Bd.zero | apply Bd.mul | apply Bd.add | apply Bd.sub)); (· decide))) only [u__law_mirror, i__law_mirror, e1, e2, e3, e_var, kV_d, kV_r, kVr_l, kVr_f, e_arg, kA_d, kA_r, e_lit, pk_d, pk_r, kPr_l, kPr_f, outD_s, outB_s, e_bin, kBin1_v, kBin1_r, kBin2_v, kBin2_r, kBin3_s, e_cmp, kCmp1_v, kCmp1_r, kCmp2_v, kCmp2_r, kCmp3_s, e_idx, kIdx1_v, kIdx1_r, kIdx2_v, kIdx2_r, kIdx3_s, e_neg, kNeg1_v, kNeg1_r, e_tru, kTru1_v, kTru1_r, kNeg2_s, kTru2_s, e_isc, kIsc1_v, kIsc1_r, kIsc2_s, e_and, kAnd_t, kAnd_f, kAnd_r, e_or, kOr_t, kOr_f, kOr_r, e_not, kNot_t, kNot_f, kNot_r, e_ifx, kIfx_t, kIfx_f, kIfx_r, e_chn, kCh1_v, kCh1_r, kCh2_v, kCh2_r, kChP_s, kChB_t, kChB_f, kCh3_v, kCh3_r, kCh4_s, e_nil, e_cons, kCs1_v, kCs1_r, kCs2_v, kCs2_r, e_tup, kTu1_v, kTu1_r, kTu2_0, kTu2_1, kTu2_2, kTu2_3, kTu2_4, kTu2_5, kTu2_6, kTu2_7, kTu2_8, e_lst, kLi1_v, kLi1_r, kLi2_0, kLi2_1, kLi2_2, kLi2_3, kLi2_4, kLi2_5, kLi2_6, kLi2_7, kLi2_8, datL, Option.map_some, e_call, kCa1_v, kCa1_r, kCa2_o, kCa2_r, e_blt, kBl1_v, kBl1_r, kBl2_s, pl_nil, pl_cons, kPL_s, e_rng1, kR1_v, e_rng2, kR2_v, kR2_r, kR2b_v, e_comp, kC1_v, kC1_r, cl_nil, cl_cons, kCL_y, kCL_n, s_step, kS1_s, kS2_t, kS2_f, kS3_v, t_seq, kSq_n, kSq_t, kSq_r, kSq_b, t_nop, t_asg, kAs1_v, kAs1_r, kAs2_s, t_par, kPa1_v, kPa2_v, par_d, t_ret, kRt_v, kRt_r, t_exp, kEx_v, kEx_r, t_ite, kIt_t, kIt_f, kIt_r, t_rse, t_brk, t_try, kTr_r, kTr_n, kTr_t, t_for, kF1_v, kF1_r, kF2_s, fl_nil, fl_cons, kFL_n, kFL_t, kFL_r, kFL_b, s_for, kSF_s, List.getElem?_cons_zero, List.getElem?_cons_succ, List.set_cons_zero, List.set_cons_succ, List.length_cons, List.length_nil, List.cons_append, List.nil_append, b_add, b_sub, b_mul, b_fdiv, b_mod, c_lt, c_le, c_gt, c_ge, c_eq, c_ne, c_eqi, c_nei, l_tup, l_list, l_abs, sq_t, sq_l, i_t1_0, i_l1_0, i_t2_0, i_l2_0, i_t2_1, i_l2_1, i_t3_0, i_l3_0, i_t3_1, i_l3_1, i_t3_2, i_l3_2, i_t4_0, i_l4_0, i_t4_1, i_l4_1, i_t4_2, i_l4_2, i_t4_3, i_l4_3, i_t5_0, i_l5_0, i_t5_1, i_l5_1, i_t5_2, i_l5_2, i_t5_3, i_l5_3, i_t5_4, i_l5_4, i_t6_0, i_l6_0, i_t6_1, i_l6_1, i_t6_2, i_l6_2, i_t6_3, i_l6_3, i_t6_4, i_l6_4, i_t6_5, i_l6_5, bt_nm, wp_nil, wp_cons, List.replicate, Nat.reduceSub, List.append_nil, Int.reduceLT, Int.reduceLE, Int.reduceBEq, Int.reduceSub, decide_true, decide_false, Bool.not_true, Bool.not_false, Bool.not_not, e_rz, e_rz1, e_ok, e_nx, isc_e, ln0, ln1, ln2, ln3, ln4, lt2, lt4, if_true, if_false, reduceIte, Bool.false_eq_true, bt_nil_t, bt_cons_t, bt_nil_l, bt_cons_l, Option.bind, e_okC, t_asgM, kM1_l, kM2_t, kM1_r, nr_nil, nr_d, nr_u, nr_r, bq_0, bq_0a, bl_1, bl_1z, bl_2, bl_2z, bl_21, bl_c1, bl_c1z, bl_c1y, bl_c1x, bl_c2, bl_c2z, bl_c21, g_1, g_2, g_21, s_1, s_2, s_21, t_apd2, kAp3_u, kAp4_t, kP1_v, kP1_r, kP2_l, kP3_v, kP3_r, e_ok1, e_nx1, e_ok2, e_rz2, e_ok1c, e_ok2c, kC2_u, kC3_t, e_dsel, kD1_v, kD2_v, e_mth, kMt1_v, kMt2_l, kMt3_v, kMt4_s, l_any4, l_all4, ist_s0, ist_i0, tr_bl, is_nn, is_bn, is_in, is_tn, is_ln, is_sn, nb0, nc0, nb1, nc1, nb2, nc2, nb3, nc3, nb4, nc4, nb5, nc5, nb6, nc6, nb7, nc7, nb8, nc8, nb9, nc9, nb10, nc10, nb11, nc11, nb12, nc12, nb13, nc13, nb14, nc14, nb15, nc15, nb16, nc16, nb17, nc17, nb18, nc18, nb19, nc19, nb20, nc20, nb21, nc21, nb22, nc22, nb23, nc23, nb24, nc24, nb25, nc25, nb26, nc26, nb27, nc27, nb28, nc28, nb29, nc29, nb30, nc30, nb31, nc31, nb32, nc32, nb33, nc33, nb34, nc34, nb35, nc35, nb36, nc36, nb37, nc37, nb38, nc38, nb39, nc39, nb40, nc40, r1_0, r1_1, r1_2, r1_3, r1_4, r1_5, r1_6, rgl_1, rgl_2, rgl_3, rgl_4, md_1, md_2, md_3, md_4, qt0, qt1, qt2, qt3, Int.reduceMul, Int.reduceNeg, Int.reduceAdd, Nat.add_zero, Nat.reduceAdd, Bool.true_and, Bool.and_true, Bool.false_and, Bool.and_false, Bool.or_false, Bool.false_or]
end
/-! ### round and round -/
def itQ (a b p : Q) : Nat → Q
  | 0 => p
  | k + 1 => tdQ (((itQ a b p k).mir a).mir b)
section
variable {a b p : Q} (ha : okS 7 a) (hb : okS 7 b) (hp : okS 7 p)
include ha hb hp
theorem it_ok : ∀ k : Nat, okS (7 * 777924 ^ k) (itQ a b p k)
  | 0 => hp
  | k + 1 => by
    have h := it_ok k
    have l := mir_le h.le ha.le
    rw [show ∀ m : Nat, 6 * (7 * 7) * m + 2 * (6 * (m * 7)) * 7 = 882 * m from fun m => by omega] at l
    have l2 := mir_le l hb.le
    rw [show ∀ m : Nat, 6 * (7 * 7) * (882 * m) + 2 * (6 * (882 * m * 7)) * 7 = 777924 * m from fun m => by omega, show 777924 * (7 * 777924 ^ k) = 7 * 777924 ^ (k + 1) by rw [Nat.pow_succ]; omega] at l2
    exact (tdQ_ok l2 (mir_pos (mir_pos h.pr ha.pr) hb.pr)).1
theorem it_bd {k : Nat} (h : k ≤ 30) : Bd4 610 (itQ a b p k).a (itQ a b p k).b (itQ a b p k).c (itQ a b p k).d ∧ Bd4 620 ((itQ a b p k).mir a).a ((itQ a b p k).mir a).b ((itQ a b p k).mir a).c ((itQ a b p k).mir a).d := by
  have l := (it_ok ha hb hp k).le
  have l2 := mir_le l ha.le
  rw [show ∀ m : Nat, 6 * (7 * 7) * m + 2 * (6 * (m * 7)) * 7 = 882 * m from fun m => by omega] at l2
  have z : 7 * 777924 ^ k ≤ 7 * 777924 ^ 30 := Nat.mul_le_mul_left _ (Nat.pow_le_pow_right (by decide) h)
  have z1 : 7 * 777924 ^ 30 < 2 ^ 610 := by decide +kernel
  have z2 : 882 * (7 * 777924 ^ 30) < 2 ^ 620 := by decide +kernel
  exact ⟨l.bd (Nat.lt_of_le_of_lt z z1), l2.bd (Nat.lt_of_le_of_lt (Nat.mul_le_mul_left _ z) z2)⟩
omit ha hb hp
/-- the first that is as it was, within so many -/
def dv (a b p : Q) : Nat → D
  | 0 => .non
  | k + 1 => match dv a b p k with
    | .non => if deq (itQ a b p (k + 1)).t p.t = true then .int ((k + 1 : Nat) : Int) else .non
    | d => d
theorem dv_is : ∀ k : Nat, dv a b p k = .non ∨ ∃ j : Nat, 1 ≤ j ∧ j ≤ k ∧ dv a b p k = .int (j : Int) ∧ dv a b p (j - 1) = .non
  | 0 => .inl rfl
  | k + 1 => by
    rcases dv_is k with h | ⟨j, h1, h2, h3, h4⟩
    · have e : dv a b p (k + 1) = if deq (itQ a b p (k + 1)).t p.t = true then .int ((k + 1 : Nat) : Int) else .non := by
        show (match dv a b p k with
          | .non => if deq (itQ a b p (k + 1)).t p.t = true then D.int ((k + 1 : Nat) : Int) else .non
          | d => d) = _
        rw [h]
      rw [e]
      split
      · exact .inr ⟨k + 1, by omega, by omega, rfl, h⟩
      · exact .inl rfl
    · have e : dv a b p (k + 1) = dv a b p k := by
        show (match dv a b p k with
          | .non => if deq (itQ a b p (k + 1)).t p.t = true then D.int ((k + 1 : Nat) : Int) else .non
          | d => d) = _
        rw [h3]
      exact .inr ⟨j, h1, by omega, e.trans h3, h4⟩
theorem dv_none {k : Nat} (h : dv a b p k = .non) : dv a b p (k + 1) = if deq (itQ a b p (k + 1)).t p.t = true then .int ((k + 1 : Nat) : Int) else .non := by
  show (match dv a b p k with
    | .non => if deq (itQ a b p (k + 1)).t p.t = true then D.int ((k + 1 : Nat) : Int) else .non
    | d => d) = _
  rw [h]
theorem dv_some {k : Nat} {z : Int} (h : dv a b p k = .int z) : dv a b p (k + 1) = .int z := by
  show (match dv a b p k with
    | .non => if deq (itQ a b p (k + 1)).t p.t = true then D.int ((k + 1 : Nat) : Int) else .non
    | d => d) = _
  rw [h]
theorem dv_more {k : Nat} {z : Int} (h : dv a b p k = .int z) : ∀ j, dv a b p (k + j) = .int z
  | 0 => h
  | j + 1 => dv_some (dv_more h j)
def upL : Nat → Nat → List D
  | _, 0 => []
  | s, j + 1 => .int ((s + 1 : Nat) : Int) :: upL (s + 1) j
def loL : Nat → Nat → List D
  | _, 0 => []
  | s, j + 1 => .int (s : Int) :: loL (s + 1) j
theorem up_eq : ∀ (j s : Nat), (List.range j).map (fun k => D.int (((s + 1 : Nat) : Int) + (k : Nat))) = upL s j
  | 0, _ => rfl
  | j + 1, s => by
    rw [List.range_succ_eq_map, List.map_cons, List.map_map]
    show D.int (((s + 1 : Nat) : Int) + ((0 : Nat) : Int)) :: _ = D.int ((s + 1 : Nat) : Int) :: upL (s + 1) j
    rw [← up_eq j (s + 1)]
    congr 1
    refine List.map_congr_left fun k _ => ?_
    simp only [Function.comp, D.int.injEq]
    omega
theorem lo_eq : ∀ (j s : Nat), (List.range j).map (fun k => D.int ((s : Int) + (k : Nat))) = loL s j
  | 0, _ => rfl
  | j + 1, s => by
    rw [List.range_succ_eq_map, List.map_cons, List.map_map]
    show D.int ((s : Int) + ((0 : Nat) : Int)) :: _ = D.int (s : Int) :: loL (s + 1) j
    rw [← lo_eq j (s + 1)]
    congr 1
    refine List.map_congr_left fun k _ => ?_
    simp only [Function.comp, D.int.injEq]
    omega
theorem rng_up {M : Nat} : rngL 1 ((M : Int) + 1) = upL 0 M := by
  unfold rngL
  rw [show ((M : Int) + 1 - 1).toNat = M by omega]
  exact up_eq M 0
theorem rng_lo {M : Nat} : rngL 0 (M : Int) = loL 0 M := by
  unfold rngL
  rw [show ((M : Int) - 0).toNat = M by omega]
  exact lo_eq M 0
include ha hb hp
/-- comes_back's loop -/
theorem cb_loop {n w : Nat} {S : Sto} {s3 : Sl} : ∀ (j s : Nat) (s5 : Sl), s + j ≤ 30 → dv a b p s = .non →
    (dv a b p (s + j) = .non ∧ ∃ s5', forL (stepF LW (callE LW Pr (n + 3)) w (.nm 5) cbB) (upL s j) [.d p.t, .d a.t, .d b.t, s3, .d (itQ a b p s).t, s5] S = some (.nx, [.d p.t, .d a.t, .d b.t, s3, .d (itQ a b p (s + j)).t, s5'], S)) ∨
    (∃ z fr, dv a b p (s + j) = .int z ∧ forL (stepF LW (callE LW Pr (n + 3)) w (.nm 5) cbB) (upL s j) [.d p.t, .d a.t, .d b.t, s3, .d (itQ a b p s).t, s5] S = some (.ret (.int z), fr, S))
  | 0, s, s5, _, h => .inl ⟨h, s5, rfl⟩
  | j + 1, s, s5, hj, h => by
    have o := it_ok ha hb hp s
    obtain ⟨l1, l2⟩ := it_bd ha hb hp (k := s) (by omega)
    have ps := o.pr
    have m1 := mirB (n := n + 1) (S := S) (is4Q (p := itQ a b p s)) (l1.mono (by decide)) (b7 ha)
    have m2 := mirB (n := n + 1) (S := S) (is4l (p := (itQ a b p s).mir a)) l2 (b7 hb)
    have t : callE LW Pr (n + 3) 3 [.d (ql (((itQ a b p s).mir a).mir b))] S = some (.ok (itQ a b p (s + 1)).t, S) := ev_tidy (n := n + 1) bs.hdv bs.htd is4l ((mirBd l2 (b7 hb)).mono (by decide)) (fst4_ne (mir_pos (mir_pos ps ha.pr) hb.pr))
    have ce := c_eq (plnQ (p := itQ a b p (s + 1))) (plnQ (p := p))
    have dn := dv_none h
    cases hd : deq (itQ a b p (s + 1)).t p.t with
    | true =>
      rw [hd, if_pos rfl] at dn
      refine .inr ⟨((s + 1 : Nat) : Int), [.d p.t, .d a.t, .d b.t, s3, .d (itQ a b p (s + 1)).t, .d (.int ((s + 1 : Nat) : Int))], ?_, ?_⟩
      · rw [show s + (j + 1) = s + 1 + j by omega]
        exact dv_more dn j
      · show forL _ (.int ((s + 1 : Nat) : Int) :: upL (s + 1) j) _ S = _
        simp only [cbB, m1, m2, t, ce, hd, e_var, kV_d, kV_r, kVr_l, kVr_f, e_arg, kA_d, kA_r, e_lit, pk_d, pk_r, kPr_l, kPr_f, outD_s, outB_s, e_bin, kBin1_v, kBin1_r, kBin2_v, kBin2_r, kBin3_s, e_cmp, kCmp1_v, kCmp1_r, kCmp2_v, kCmp2_r, kCmp3_s, e_idx, kIdx1_v, kIdx1_r, kIdx2_v, kIdx2_r, kIdx3_s, e_neg, kNeg1_v, kNeg1_r, e_tru, kTru1_v, kTru1_r, kNeg2_s, kTru2_s, e_isc, kIsc1_v, kIsc1_r, kIsc2_s, e_and, kAnd_t, kAnd_f, kAnd_r, e_or, kOr_t, kOr_f, kOr_r, e_not, kNot_t, kNot_f, kNot_r, e_ifx, kIfx_t, kIfx_f, kIfx_r, e_chn, kCh1_v, kCh1_r, kCh2_v, kCh2_r, kChP_s, kChB_t, kChB_f, kCh3_v, kCh3_r, kCh4_s, e_nil, e_cons, kCs1_v, kCs1_r, kCs2_v, kCs2_r, e_tup, kTu1_v, kTu1_r, kTu2_0, kTu2_1, kTu2_2, kTu2_3, kTu2_4, kTu2_5, kTu2_6, kTu2_7, kTu2_8, e_lst, kLi1_v, kLi1_r, kLi2_0, kLi2_1, kLi2_2, kLi2_3, kLi2_4, kLi2_5, kLi2_6, kLi2_7, kLi2_8, datL, Option.map_some, e_call, kCa1_v, kCa1_r, kCa2_o, kCa2_r, e_blt, kBl1_v, kBl1_r, kBl2_s, pl_nil, pl_cons, kPL_s, e_rng1, kR1_v, e_rng2, kR2_v, kR2_r, kR2b_v, e_comp, kC1_v, kC1_r, cl_nil, cl_cons, kCL_y, kCL_n, s_step, kS1_s, kS2_t, kS2_f, kS3_v, t_seq, kSq_n, kSq_t, kSq_r, kSq_b, t_nop, t_asg, kAs1_v, kAs1_r, kAs2_s, t_par, kPa1_v, kPa2_v, par_d, t_ret, kRt_v, kRt_r, t_exp, kEx_v, kEx_r, t_ite, kIt_t, kIt_f, kIt_r, t_rse, t_brk, t_try, kTr_r, kTr_n, kTr_t, t_for, kF1_v, kF1_r, kF2_s, fl_nil, fl_cons, kFL_n, kFL_t, kFL_r, kFL_b, s_for, kSF_s, List.getElem?_cons_zero, List.getElem?_cons_succ, List.set_cons_zero, List.set_cons_succ, List.length_cons, List.length_nil, List.cons_append, List.nil_append, b_add, b_sub, b_mul, b_fdiv, b_mod, c_lt, c_le, c_gt, c_ge, c_eq, c_ne, c_eqi, c_nei, l_tup, l_list, l_abs, sq_t, sq_l, i_t1_0, i_l1_0, i_t2_0, i_l2_0, i_t2_1, i_l2_1, i_t3_0, i_l3_0, i_t3_1, i_l3_1, i_t3_2, i_l3_2, i_t4_0, i_l4_0, i_t4_1, i_l4_1, i_t4_2, i_l4_2, i_t4_3, i_l4_3, i_t5_0, i_l5_0, i_t5_1, i_l5_1, i_t5_2, i_l5_2, i_t5_3, i_l5_3, i_t5_4, i_l5_4, i_t6_0, i_l6_0, i_t6_1, i_l6_1, i_t6_2, i_l6_2, i_t6_3, i_l6_3, i_t6_4, i_l6_4, i_t6_5, i_l6_5, bt_nm, wp_nil, wp_cons, List.replicate, Nat.reduceSub, List.append_nil, Int.reduceLT, Int.reduceLE, Int.reduceBEq, Int.reduceSub, decide_true, decide_false, Bool.not_true, Bool.not_false, Bool.not_not, e_rz, e_rz1, e_ok, e_nx, isc_e, ln0, ln1, ln2, ln3, ln4, lt2, lt4, if_true, if_false, reduceIte, Bool.false_eq_true, bt_nil_t, bt_cons_t, bt_nil_l, bt_cons_l, Option.bind, e_okC, t_asgM, kM1_l, kM2_t, kM1_r, nr_nil, nr_d, nr_u, nr_r, bq_0, bq_0a, bl_1, bl_1z, bl_2, bl_2z, bl_21, bl_c1, bl_c1z, bl_c1y, bl_c1x, bl_c2, bl_c2z, bl_c21, g_1, g_2, g_21, s_1, s_2, s_21, t_apd2, kAp3_u, kAp4_t, kP1_v, kP1_r, kP2_l, kP3_v, kP3_r, e_ok1, e_nx1, e_ok2, e_rz2, e_ok1c, e_ok2c, kC2_u, kC3_t, e_dsel, kD1_v, kD2_v, e_mth, kMt1_v, kMt2_l, kMt3_v, kMt4_s, l_any4, l_all4, ist_s0, ist_i0, tr_bl, is_nn, is_bn, is_in, is_tn, is_ln, is_sn, nb0, nc0, nb1, nc1, nb2, nc2, nb3, nc3, nb4, nc4, nb5, nc5, nb6, nc6, nb7, nc7, nb8, nc8, nb9, nc9, nb10, nc10, nb11, nc11, nb12, nc12, nb13, nc13, nb14, nc14, nb15, nc15, nb16, nc16, nb17, nc17, nb18, nc18, nb19, nc19, nb20, nc20, nb21, nc21, nb22, nc22, nb23, nc23, nb24, nc24, nb25, nc25, nb26, nc26, nb27, nc27, nb28, nc28, nb29, nc29, nb30, nc30, nb31, nc31, nb32, nc32, nb33, nc33, nb34, nc34, nb35, nc35, nb36, nc36, nb37, nc37, nb38, nc38, nb39, nc39, nb40, nc40, r1_0, r1_1, r1_2, r1_3, r1_4, r1_5, r1_6, rgl_1, rgl_2, rgl_3, rgl_4, md_1, md_2, md_3, md_4, qt0, qt1, qt2, qt3, Int.reduceMul, Int.reduceNeg, Int.reduceAdd, Nat.add_zero, Nat.reduceAdd, Bool.true_and, Bool.and_true, Bool.false_and, Bool.and_false, Bool.or_false, Bool.false_or]
    | false =>
      rw [hd, if_neg (by decide)] at dn
      have st : stepF LW (callE LW Pr (n + 3)) w (.nm 5) cbB (.int ((s + 1 : Nat) : Int)) [.d p.t, .d a.t, .d b.t, s3, .d (itQ a b p s).t, s5] S = some (.nx, [.d p.t, .d a.t, .d b.t, s3, .d (itQ a b p (s + 1)).t, .d (.int ((s + 1 : Nat) : Int))], S) := by
        simp only [cbB, m1, m2, t, ce, hd, e_var, kV_d, kV_r, kVr_l, kVr_f, e_arg, kA_d, kA_r, e_lit, pk_d, pk_r, kPr_l, kPr_f, outD_s, outB_s, e_bin, kBin1_v, kBin1_r, kBin2_v, kBin2_r, kBin3_s, e_cmp, kCmp1_v, kCmp1_r, kCmp2_v, kCmp2_r, kCmp3_s, e_idx, kIdx1_v, kIdx1_r, kIdx2_v, kIdx2_r, kIdx3_s, e_neg, kNeg1_v, kNeg1_r, e_tru, kTru1_v, kTru1_r, kNeg2_s, kTru2_s, e_isc, kIsc1_v, kIsc1_r, kIsc2_s, e_and, kAnd_t, kAnd_f, kAnd_r, e_or, kOr_t, kOr_f, kOr_r, e_not, kNot_t, kNot_f, kNot_r, e_ifx, kIfx_t, kIfx_f, kIfx_r, e_chn, kCh1_v, kCh1_r, kCh2_v, kCh2_r, kChP_s, kChB_t, kChB_f, kCh3_v, kCh3_r, kCh4_s, e_nil, e_cons, kCs1_v, kCs1_r, kCs2_v, kCs2_r, e_tup, kTu1_v, kTu1_r, kTu2_0, kTu2_1, kTu2_2, kTu2_3, kTu2_4, kTu2_5, kTu2_6, kTu2_7, kTu2_8, e_lst, kLi1_v, kLi1_r, kLi2_0, kLi2_1, kLi2_2, kLi2_3, kLi2_4, kLi2_5, kLi2_6, kLi2_7, kLi2_8, datL, Option.map_some, e_call, kCa1_v, kCa1_r, kCa2_o, kCa2_r, e_blt, kBl1_v, kBl1_r, kBl2_s, pl_nil, pl_cons, kPL_s, e_rng1, kR1_v, e_rng2, kR2_v, kR2_r, kR2b_v, e_comp, kC1_v, kC1_r, cl_nil, cl_cons, kCL_y, kCL_n, s_step, kS1_s, kS2_t, kS2_f, kS3_v, t_seq, kSq_n, kSq_t, kSq_r, kSq_b, t_nop, t_asg, kAs1_v, kAs1_r, kAs2_s, t_par, kPa1_v, kPa2_v, par_d, t_ret, kRt_v, kRt_r, t_exp, kEx_v, kEx_r, t_ite, kIt_t, kIt_f, kIt_r, t_rse, t_brk, t_try, kTr_r, kTr_n, kTr_t, t_for, kF1_v, kF1_r, kF2_s, fl_nil, fl_cons, kFL_n, kFL_t, kFL_r, kFL_b, s_for, kSF_s, List.getElem?_cons_zero, List.getElem?_cons_succ, List.set_cons_zero, List.set_cons_succ, List.length_cons, List.length_nil, List.cons_append, List.nil_append, b_add, b_sub, b_mul, b_fdiv, b_mod, c_lt, c_le, c_gt, c_ge, c_eq, c_ne, c_eqi, c_nei, l_tup, l_list, l_abs, sq_t, sq_l, i_t1_0, i_l1_0, i_t2_0, i_l2_0, i_t2_1, i_l2_1, i_t3_0, i_l3_0, i_t3_1, i_l3_1, i_t3_2, i_l3_2, i_t4_0, i_l4_0, i_t4_1, i_l4_1, i_t4_2, i_l4_2, i_t4_3, i_l4_3, i_t5_0, i_l5_0, i_t5_1, i_l5_1, i_t5_2, i_l5_2, i_t5_3, i_l5_3, i_t5_4, i_l5_4, i_t6_0, i_l6_0, i_t6_1, i_l6_1, i_t6_2, i_l6_2, i_t6_3, i_l6_3, i_t6_4, i_l6_4, i_t6_5, i_l6_5, bt_nm, wp_nil, wp_cons, List.replicate, Nat.reduceSub, List.append_nil, Int.reduceLT, Int.reduceLE, Int.reduceBEq, Int.reduceSub, decide_true, decide_false, Bool.not_true, Bool.not_false, Bool.not_not, e_rz, e_rz1, e_ok, e_nx, isc_e, ln0, ln1, ln2, ln3, ln4, lt2, lt4, if_true, if_false, reduceIte, Bool.false_eq_true, bt_nil_t, bt_cons_t, bt_nil_l, bt_cons_l, Option.bind, e_okC, t_asgM, kM1_l, kM2_t, kM1_r, nr_nil, nr_d, nr_u, nr_r, bq_0, bq_0a, bl_1, bl_1z, bl_2, bl_2z, bl_21, bl_c1, bl_c1z, bl_c1y, bl_c1x, bl_c2, bl_c2z, bl_c21, g_1, g_2, g_21, s_1, s_2, s_21, t_apd2, kAp3_u, kAp4_t, kP1_v, kP1_r, kP2_l, kP3_v, kP3_r, e_ok1, e_nx1, e_ok2, e_rz2, e_ok1c, e_ok2c, kC2_u, kC3_t, e_dsel, kD1_v, kD2_v, e_mth, kMt1_v, kMt2_l, kMt3_v, kMt4_s, l_any4, l_all4, ist_s0, ist_i0, tr_bl, is_nn, is_bn, is_in, is_tn, is_ln, is_sn, nb0, nc0, nb1, nc1, nb2, nc2, nb3, nc3, nb4, nc4, nb5, nc5, nb6, nc6, nb7, nc7, nb8, nc8, nb9, nc9, nb10, nc10, nb11, nc11, nb12, nc12, nb13, nc13, nb14, nc14, nb15, nc15, nb16, nc16, nb17, nc17, nb18, nc18, nb19, nc19, nb20, nc20, nb21, nc21, nb22, nc22, nb23, nc23, nb24, nc24, nb25, nc25, nb26, nc26, nb27, nc27, nb28, nc28, nb29, nc29, nb30, nc30, nb31, nc31, nb32, nc32, nb33, nc33, nb34, nc34, nb35, nc35, nb36, nc36, nb37, nc37, nb38, nc38, nb39, nc39, nb40, nc40, r1_0, r1_1, r1_2, r1_3, r1_4, r1_5, r1_6, rgl_1, rgl_2, rgl_3, rgl_4, md_1, md_2, md_3, md_4, qt0, qt1, qt2, qt3, Int.reduceMul, Int.reduceNeg, Int.reduceAdd, Nat.add_zero, Nat.reduceAdd, Bool.true_and, Bool.and_true, Bool.false_and, Bool.and_false, Bool.or_false, Bool.false_or]
      have go : ∀ fr0, forL (stepF LW (callE LW Pr (n + 3)) w (.nm 5) cbB) (upL s (j + 1)) fr0 S = kFL (stepF LW (callE LW Pr (n + 3)) w (.nm 5) cbB) (upL (s + 1) j) (stepF LW (callE LW Pr (n + 3)) w (.nm 5) cbB (.int ((s + 1 : Nat) : Int)) fr0 S) := fun fr0 => fl_cons
      rw [go, st, kFL_n, show s + (j + 1) = s + 1 + j by omega]
      exact cb_loop j (s + 1) _ (by omega) dn
theorem v_cb {n M : Nat} {S : Sto} (hM : M ≤ 30) : callE LW Pr (n + 4) 13 [.d p.t, .d a.t, .d b.t, .d (.int (M : Int))] S = some (.ok (dv a b p M), S) := by
  have op := hp.q (by decide)
  have oa := ha.q (by decide)
  have ob := hb.q (by decide)
  have d1 : decide (0 ≤ (M : Int)) = true := decide_eq_true (by omega)
  have d2 : decide ((M : Int) ≤ 30) = true := decide_eq_true (by omega)
  have mm : mid ((M : Int) + 1) = true := by
    unfold mid
    rw [decide_eq_true (show -1000000 ≤ (M : Int) + 1 by omega), decide_eq_true (show (M : Int) + 1 ≤ 1000000 by omega)]
    rfl
  have e : i_comes_back = .seq ((.exp (.call 5 (.cons (.arg 0) .nil)))) (.seq ((.exp (.call 5 (.cons (.arg 1) .nil)))) (.seq ((.exp (.call 5 (.cons (.arg 2) .nil)))) (.seq ((.ite (.not (.chn .le .le (.lit (.int 0)) (.arg 3) (.lit (.int 30)))) (.rse 6) .nop)) (.seq ((.asg (.nm 4) (.var 0))) (.seq (.for (.nm 5) (.rng2 (.lit (.int 1)) (.bin .add (.arg 3) (.lit (.int 1)))) cbB) ((.ret (.lit (.non))))))))) := rfl
  rcases cb_loop ha hb hp (n := n) (w := List.length S) (S := S) (s3 := .d (.int (M : Int))) M 0 .un (by omega) rfl with ⟨h1, s5', h2⟩ | ⟨z, fr, h1, h2⟩
  · rw [Nat.zero_add] at h1 h2
    rw [h1]
    simp only [u_comes_back, e, v_lc op, v_lc oa, v_lc ob, d1, d2, kR2b_v md_1 mm, rng_up, (show itQ a b p 0 = p from rfl) ▸ h2, e_var, kV_d, kV_r, kVr_l, kVr_f, e_arg, kA_d, kA_r, e_lit, pk_d, pk_r, kPr_l, kPr_f, outD_s, outB_s, e_bin, kBin1_v, kBin1_r, kBin2_v, kBin2_r, kBin3_s, e_cmp, kCmp1_v, kCmp1_r, kCmp2_v, kCmp2_r, kCmp3_s, e_idx, kIdx1_v, kIdx1_r, kIdx2_v, kIdx2_r, kIdx3_s, e_neg, kNeg1_v, kNeg1_r, e_tru, kTru1_v, kTru1_r, kNeg2_s, kTru2_s, e_isc, kIsc1_v, kIsc1_r, kIsc2_s, e_and, kAnd_t, kAnd_f, kAnd_r, e_or, kOr_t, kOr_f, kOr_r, e_not, kNot_t, kNot_f, kNot_r, e_ifx, kIfx_t, kIfx_f, kIfx_r, e_chn, kCh1_v, kCh1_r, kCh2_v, kCh2_r, kChP_s, kChB_t, kChB_f, kCh3_v, kCh3_r, kCh4_s, e_nil, e_cons, kCs1_v, kCs1_r, kCs2_v, kCs2_r, e_tup, kTu1_v, kTu1_r, kTu2_0, kTu2_1, kTu2_2, kTu2_3, kTu2_4, kTu2_5, kTu2_6, kTu2_7, kTu2_8, e_lst, kLi1_v, kLi1_r, kLi2_0, kLi2_1, kLi2_2, kLi2_3, kLi2_4, kLi2_5, kLi2_6, kLi2_7, kLi2_8, datL, Option.map_some, e_call, kCa1_v, kCa1_r, kCa2_o, kCa2_r, e_blt, kBl1_v, kBl1_r, kBl2_s, pl_nil, pl_cons, kPL_s, e_rng1, kR1_v, e_rng2, kR2_v, kR2_r, kR2b_v, e_comp, kC1_v, kC1_r, cl_nil, cl_cons, kCL_y, kCL_n, s_step, kS1_s, kS2_t, kS2_f, kS3_v, t_seq, kSq_n, kSq_t, kSq_r, kSq_b, t_nop, t_asg, kAs1_v, kAs1_r, kAs2_s, t_par, kPa1_v, kPa2_v, par_d, t_ret, kRt_v, kRt_r, t_exp, kEx_v, kEx_r, t_ite, kIt_t, kIt_f, kIt_r, t_rse, t_brk, t_try, kTr_r, kTr_n, kTr_t, t_for, kF1_v, kF1_r, kF2_s, fl_nil, fl_cons, kFL_n, kFL_t, kFL_r, kFL_b, s_for, kSF_s, List.getElem?_cons_zero, List.getElem?_cons_succ, List.set_cons_zero, List.set_cons_succ, List.length_cons, List.length_nil, List.cons_append, List.nil_append, b_add, b_sub, b_mul, b_fdiv, b_mod, c_lt, c_le, c_gt, c_ge, c_eq, c_ne, c_eqi, c_nei, l_tup, l_list, l_abs, sq_t, sq_l, i_t1_0, i_l1_0, i_t2_0, i_l2_0, i_t2_1, i_l2_1, i_t3_0, i_l3_0, i_t3_1, i_l3_1, i_t3_2, i_l3_2, i_t4_0, i_l4_0, i_t4_1, i_l4_1, i_t4_2, i_l4_2, i_t4_3, i_l4_3, i_t5_0, i_l5_0, i_t5_1, i_l5_1, i_t5_2, i_l5_2, i_t5_3, i_l5_3, i_t5_4, i_l5_4, i_t6_0, i_l6_0, i_t6_1, i_l6_1, i_t6_2, i_l6_2, i_t6_3, i_l6_3, i_t6_4, i_l6_4, i_t6_5, i_l6_5, bt_nm, wp_nil, wp_cons, List.replicate, Nat.reduceSub, List.append_nil, Int.reduceLT, Int.reduceLE, Int.reduceBEq, Int.reduceSub, decide_true, decide_false, Bool.not_true, Bool.not_false, Bool.not_not, e_rz, e_rz1, e_ok, e_nx, isc_e, ln0, ln1, ln2, ln3, ln4, lt2, lt4, if_true, if_false, reduceIte, Bool.false_eq_true, bt_nil_t, bt_cons_t, bt_nil_l, bt_cons_l, Option.bind, e_okC, t_asgM, kM1_l, kM2_t, kM1_r, nr_nil, nr_d, nr_u, nr_r, bq_0, bq_0a, bl_1, bl_1z, bl_2, bl_2z, bl_21, bl_c1, bl_c1z, bl_c1y, bl_c1x, bl_c2, bl_c2z, bl_c21, g_1, g_2, g_21, s_1, s_2, s_21, t_apd2, kAp3_u, kAp4_t, kP1_v, kP1_r, kP2_l, kP3_v, kP3_r, e_ok1, e_nx1, e_ok2, e_rz2, e_ok1c, e_ok2c, kC2_u, kC3_t, e_dsel, kD1_v, kD2_v, e_mth, kMt1_v, kMt2_l, kMt3_v, kMt4_s, l_any4, l_all4, ist_s0, ist_i0, tr_bl, is_nn, is_bn, is_in, is_tn, is_ln, is_sn, nb0, nc0, nb1, nc1, nb2, nc2, nb3, nc3, nb4, nc4, nb5, nc5, nb6, nc6, nb7, nc7, nb8, nc8, nb9, nc9, nb10, nc10, nb11, nc11, nb12, nc12, nb13, nc13, nb14, nc14, nb15, nc15, nb16, nc16, nb17, nc17, nb18, nc18, nb19, nc19, nb20, nc20, nb21, nc21, nb22, nc22, nb23, nc23, nb24, nc24, nb25, nc25, nb26, nc26, nb27, nc27, nb28, nc28, nb29, nc29, nb30, nc30, nb31, nc31, nb32, nc32, nb33, nc33, nb34, nc34, nb35, nc35, nb36, nc36, nb37, nc37, nb38, nc38, nb39, nc39, nb40, nc40, r1_0, r1_1, r1_2, r1_3, r1_4, r1_5, r1_6, rgl_1, rgl_2, rgl_3, rgl_4, md_1, md_2, md_3, md_4, qt0, qt1, qt2, qt3, Int.reduceMul, Int.reduceNeg, Int.reduceAdd, Nat.add_zero, Nat.reduceAdd, Bool.true_and, Bool.and_true, Bool.false_and, Bool.and_false, Bool.or_false, Bool.false_or]
  · rw [Nat.zero_add] at h1
    rw [h1]
    simp only [u_comes_back, e, v_lc op, v_lc oa, v_lc ob, d1, d2, kR2b_v md_1 mm, rng_up, (show itQ a b p 0 = p from rfl) ▸ h2, e_var, kV_d, kV_r, kVr_l, kVr_f, e_arg, kA_d, kA_r, e_lit, pk_d, pk_r, kPr_l, kPr_f, outD_s, outB_s, e_bin, kBin1_v, kBin1_r, kBin2_v, kBin2_r, kBin3_s, e_cmp, kCmp1_v, kCmp1_r, kCmp2_v, kCmp2_r, kCmp3_s, e_idx, kIdx1_v, kIdx1_r, kIdx2_v, kIdx2_r, kIdx3_s, e_neg, kNeg1_v, kNeg1_r, e_tru, kTru1_v, kTru1_r, kNeg2_s, kTru2_s, e_isc, kIsc1_v, kIsc1_r, kIsc2_s, e_and, kAnd_t, kAnd_f, kAnd_r, e_or, kOr_t, kOr_f, kOr_r, e_not, kNot_t, kNot_f, kNot_r, e_ifx, kIfx_t, kIfx_f, kIfx_r, e_chn, kCh1_v, kCh1_r, kCh2_v, kCh2_r, kChP_s, kChB_t, kChB_f, kCh3_v, kCh3_r, kCh4_s, e_nil, e_cons, kCs1_v, kCs1_r, kCs2_v, kCs2_r, e_tup, kTu1_v, kTu1_r, kTu2_0, kTu2_1, kTu2_2, kTu2_3, kTu2_4, kTu2_5, kTu2_6, kTu2_7, kTu2_8, e_lst, kLi1_v, kLi1_r, kLi2_0, kLi2_1, kLi2_2, kLi2_3, kLi2_4, kLi2_5, kLi2_6, kLi2_7, kLi2_8, datL, Option.map_some, e_call, kCa1_v, kCa1_r, kCa2_o, kCa2_r, e_blt, kBl1_v, kBl1_r, kBl2_s, pl_nil, pl_cons, kPL_s, e_rng1, kR1_v, e_rng2, kR2_v, kR2_r, kR2b_v, e_comp, kC1_v, kC1_r, cl_nil, cl_cons, kCL_y, kCL_n, s_step, kS1_s, kS2_t, kS2_f, kS3_v, t_seq, kSq_n, kSq_t, kSq_r, kSq_b, t_nop, t_asg, kAs1_v, kAs1_r, kAs2_s, t_par, kPa1_v, kPa2_v, par_d, t_ret, kRt_v, kRt_r, t_exp, kEx_v, kEx_r, t_ite, kIt_t, kIt_f, kIt_r, t_rse, t_brk, t_try, kTr_r, kTr_n, kTr_t, t_for, kF1_v, kF1_r, kF2_s, fl_nil, fl_cons, kFL_n, kFL_t, kFL_r, kFL_b, s_for, kSF_s, List.getElem?_cons_zero, List.getElem?_cons_succ, List.set_cons_zero, List.set_cons_succ, List.length_cons, List.length_nil, List.cons_append, List.nil_append, b_add, b_sub, b_mul, b_fdiv, b_mod, c_lt, c_le, c_gt, c_ge, c_eq, c_ne, c_eqi, c_nei, l_tup, l_list, l_abs, sq_t, sq_l, i_t1_0, i_l1_0, i_t2_0, i_l2_0, i_t2_1, i_l2_1, i_t3_0, i_l3_0, i_t3_1, i_l3_1, i_t3_2, i_l3_2, i_t4_0, i_l4_0, i_t4_1, i_l4_1, i_t4_2, i_l4_2, i_t4_3, i_l4_3, i_t5_0, i_l5_0, i_t5_1, i_l5_1, i_t5_2, i_l5_2, i_t5_3, i_l5_3, i_t5_4, i_l5_4, i_t6_0, i_l6_0, i_t6_1, i_l6_1, i_t6_2, i_l6_2, i_t6_3, i_l6_3, i_t6_4, i_l6_4, i_t6_5, i_l6_5, bt_nm, wp_nil, wp_cons, List.replicate, Nat.reduceSub, List.append_nil, Int.reduceLT, Int.reduceLE, Int.reduceBEq, Int.reduceSub, decide_true, decide_false, Bool.not_true, Bool.not_false, Bool.not_not, e_rz, e_rz1, e_ok, e_nx, isc_e, ln0, ln1, ln2, ln3, ln4, lt2, lt4, if_true, if_false, reduceIte, Bool.false_eq_true, bt_nil_t, bt_cons_t, bt_nil_l, bt_cons_l, Option.bind, e_okC, t_asgM, kM1_l, kM2_t, kM1_r, nr_nil, nr_d, nr_u, nr_r, bq_0, bq_0a, bl_1, bl_1z, bl_2, bl_2z, bl_21, bl_c1, bl_c1z, bl_c1y, bl_c1x, bl_c2, bl_c2z, bl_c21, g_1, g_2, g_21, s_1, s_2, s_21, t_apd2, kAp3_u, kAp4_t, kP1_v, kP1_r, kP2_l, kP3_v, kP3_r, e_ok1, e_nx1, e_ok2, e_rz2, e_ok1c, e_ok2c, kC2_u, kC3_t, e_dsel, kD1_v, kD2_v, e_mth, kMt1_v, kMt2_l, kMt3_v, kMt4_s, l_any4, l_all4, ist_s0, ist_i0, tr_bl, is_nn, is_bn, is_in, is_tn, is_ln, is_sn, nb0, nc0, nb1, nc1, nb2, nc2, nb3, nc3, nb4, nc4, nb5, nc5, nb6, nc6, nb7, nc7, nb8, nc8, nb9, nc9, nb10, nc10, nb11, nc11, nb12, nc12, nb13, nc13, nb14, nc14, nb15, nc15, nb16, nc16, nb17, nc17, nb18, nc18, nb19, nc19, nb20, nc20, nb21, nc21, nb22, nc22, nb23, nc23, nb24, nc24, nb25, nc25, nb26, nc26, nb27, nc27, nb28, nc28, nb29, nc29, nb30, nc30, nb31, nc31, nb32, nc32, nb33, nc33, nb34, nc34, nb35, nc35, nb36, nc36, nb37, nc37, nb38, nc38, nb39, nc39, nb40, nc40, r1_0, r1_1, r1_2, r1_3, r1_4, r1_5, r1_6, rgl_1, rgl_2, rgl_3, rgl_4, md_1, md_2, md_3, md_4, qt0, qt1, qt2, qt3, Int.reduceMul, Int.reduceNeg, Int.reduceAdd, Nat.add_zero, Nat.reduceAdd, Bool.true_and, Bool.and_true, Bool.false_and, Bool.and_false, Bool.or_false, Bool.false_or]
omit ha hb
theorem v_cb_no {n : Nat} {S : Sto} {z : Int} (ha : okS 7 a) (hb : okS 7 b) (hz : z = -1 ∨ z = 31) : callE LW Pr (n + 4) 13 [.d p.t, .d a.t, .d b.t, .d (.int z)] S = some (.rz 6, S) := by
  have op := hp.q (by decide)
  have oa := ha.q (by decide)
  have ob := hb.q (by decide)
  rcases hz with rfl | rfl
  · simp only [u_comes_back, i_comes_back, v_lc op, v_lc oa, v_lc ob, e_var, kV_d, kV_r, kVr_l, kVr_f, e_arg, kA_d, kA_r, e_lit, pk_d, pk_r, kPr_l, kPr_f, outD_s, outB_s, e_bin, kBin1_v, kBin1_r, kBin2_v, kBin2_r, kBin3_s, e_cmp, kCmp1_v, kCmp1_r, kCmp2_v, kCmp2_r, kCmp3_s, e_idx, kIdx1_v, kIdx1_r, kIdx2_v, kIdx2_r, kIdx3_s, e_neg, kNeg1_v, kNeg1_r, e_tru, kTru1_v, kTru1_r, kNeg2_s, kTru2_s, e_isc, kIsc1_v, kIsc1_r, kIsc2_s, e_and, kAnd_t, kAnd_f, kAnd_r, e_or, kOr_t, kOr_f, kOr_r, e_not, kNot_t, kNot_f, kNot_r, e_ifx, kIfx_t, kIfx_f, kIfx_r, e_chn, kCh1_v, kCh1_r, kCh2_v, kCh2_r, kChP_s, kChB_t, kChB_f, kCh3_v, kCh3_r, kCh4_s, e_nil, e_cons, kCs1_v, kCs1_r, kCs2_v, kCs2_r, e_tup, kTu1_v, kTu1_r, kTu2_0, kTu2_1, kTu2_2, kTu2_3, kTu2_4, kTu2_5, kTu2_6, kTu2_7, kTu2_8, e_lst, kLi1_v, kLi1_r, kLi2_0, kLi2_1, kLi2_2, kLi2_3, kLi2_4, kLi2_5, kLi2_6, kLi2_7, kLi2_8, datL, Option.map_some, e_call, kCa1_v, kCa1_r, kCa2_o, kCa2_r, e_blt, kBl1_v, kBl1_r, kBl2_s, pl_nil, pl_cons, kPL_s, e_rng1, kR1_v, e_rng2, kR2_v, kR2_r, kR2b_v, e_comp, kC1_v, kC1_r, cl_nil, cl_cons, kCL_y, kCL_n, s_step, kS1_s, kS2_t, kS2_f, kS3_v, t_seq, kSq_n, kSq_t, kSq_r, kSq_b, t_nop, t_asg, kAs1_v, kAs1_r, kAs2_s, t_par, kPa1_v, kPa2_v, par_d, t_ret, kRt_v, kRt_r, t_exp, kEx_v, kEx_r, t_ite, kIt_t, kIt_f, kIt_r, t_rse, t_brk, t_try, kTr_r, kTr_n, kTr_t, t_for, kF1_v, kF1_r, kF2_s, fl_nil, fl_cons, kFL_n, kFL_t, kFL_r, kFL_b, s_for, kSF_s, List.getElem?_cons_zero, List.getElem?_cons_succ, List.set_cons_zero, List.set_cons_succ, List.length_cons, List.length_nil, List.cons_append, List.nil_append, b_add, b_sub, b_mul, b_fdiv, b_mod, c_lt, c_le, c_gt, c_ge, c_eq, c_ne, c_eqi, c_nei, l_tup, l_list, l_abs, sq_t, sq_l, i_t1_0, i_l1_0, i_t2_0, i_l2_0, i_t2_1, i_l2_1, i_t3_0, i_l3_0, i_t3_1, i_l3_1, i_t3_2, i_l3_2, i_t4_0, i_l4_0, i_t4_1, i_l4_1, i_t4_2, i_l4_2, i_t4_3, i_l4_3, i_t5_0, i_l5_0, i_t5_1, i_l5_1, i_t5_2, i_l5_2, i_t5_3, i_l5_3, i_t5_4, i_l5_4, i_t6_0, i_l6_0, i_t6_1, i_l6_1, i_t6_2, i_l6_2, i_t6_3, i_l6_3, i_t6_4, i_l6_4, i_t6_5, i_l6_5, bt_nm, wp_nil, wp_cons, List.replicate, Nat.reduceSub, List.append_nil, Int.reduceLT, Int.reduceLE, Int.reduceBEq, Int.reduceSub, decide_true, decide_false, Bool.not_true, Bool.not_false, Bool.not_not, e_rz, e_rz1, e_ok, e_nx, isc_e, ln0, ln1, ln2, ln3, ln4, lt2, lt4, if_true, if_false, reduceIte, Bool.false_eq_true, bt_nil_t, bt_cons_t, bt_nil_l, bt_cons_l, Option.bind, e_okC, t_asgM, kM1_l, kM2_t, kM1_r, nr_nil, nr_d, nr_u, nr_r, bq_0, bq_0a, bl_1, bl_1z, bl_2, bl_2z, bl_21, bl_c1, bl_c1z, bl_c1y, bl_c1x, bl_c2, bl_c2z, bl_c21, g_1, g_2, g_21, s_1, s_2, s_21, t_apd2, kAp3_u, kAp4_t, kP1_v, kP1_r, kP2_l, kP3_v, kP3_r, e_ok1, e_nx1, e_ok2, e_rz2, e_ok1c, e_ok2c, kC2_u, kC3_t, e_dsel, kD1_v, kD2_v, e_mth, kMt1_v, kMt2_l, kMt3_v, kMt4_s, l_any4, l_all4, ist_s0, ist_i0, tr_bl, is_nn, is_bn, is_in, is_tn, is_ln, is_sn, nb0, nc0, nb1, nc1, nb2, nc2, nb3, nc3, nb4, nc4, nb5, nc5, nb6, nc6, nb7, nc7, nb8, nc8, nb9, nc9, nb10, nc10, nb11, nc11, nb12, nc12, nb13, nc13, nb14, nc14, nb15, nc15, nb16, nc16, nb17, nc17, nb18, nc18, nb19, nc19, nb20, nc20, nb21, nc21, nb22, nc22, nb23, nc23, nb24, nc24, nb25, nc25, nb26, nc26, nb27, nc27, nb28, nc28, nb29, nc29, nb30, nc30, nb31, nc31, nb32, nc32, nb33, nc33, nb34, nc34, nb35, nc35, nb36, nc36, nb37, nc37, nb38, nc38, nb39, nc39, nb40, nc40, r1_0, r1_1, r1_2, r1_3, r1_4, r1_5, r1_6, rgl_1, rgl_2, rgl_3, rgl_4, md_1, md_2, md_3, md_4, qt0, qt1, qt2, qt3, Int.reduceMul, Int.reduceNeg, Int.reduceAdd, Nat.add_zero, Nat.reduceAdd, Bool.true_and, Bool.and_true, Bool.false_and, Bool.and_false, Bool.or_false, Bool.false_or]
  · simp only [u_comes_back, i_comes_back, v_lc op, v_lc oa, v_lc ob, e_var, kV_d, kV_r, kVr_l, kVr_f, e_arg, kA_d, kA_r, e_lit, pk_d, pk_r, kPr_l, kPr_f, outD_s, outB_s, e_bin, kBin1_v, kBin1_r, kBin2_v, kBin2_r, kBin3_s, e_cmp, kCmp1_v, kCmp1_r, kCmp2_v, kCmp2_r, kCmp3_s, e_idx, kIdx1_v, kIdx1_r, kIdx2_v, kIdx2_r, kIdx3_s, e_neg, kNeg1_v, kNeg1_r, e_tru, kTru1_v, kTru1_r, kNeg2_s, kTru2_s, e_isc, kIsc1_v, kIsc1_r, kIsc2_s, e_and, kAnd_t, kAnd_f, kAnd_r, e_or, kOr_t, kOr_f, kOr_r, e_not, kNot_t, kNot_f, kNot_r, e_ifx, kIfx_t, kIfx_f, kIfx_r, e_chn, kCh1_v, kCh1_r, kCh2_v, kCh2_r, kChP_s, kChB_t, kChB_f, kCh3_v, kCh3_r, kCh4_s, e_nil, e_cons, kCs1_v, kCs1_r, kCs2_v, kCs2_r, e_tup, kTu1_v, kTu1_r, kTu2_0, kTu2_1, kTu2_2, kTu2_3, kTu2_4, kTu2_5, kTu2_6, kTu2_7, kTu2_8, e_lst, kLi1_v, kLi1_r, kLi2_0, kLi2_1, kLi2_2, kLi2_3, kLi2_4, kLi2_5, kLi2_6, kLi2_7, kLi2_8, datL, Option.map_some, e_call, kCa1_v, kCa1_r, kCa2_o, kCa2_r, e_blt, kBl1_v, kBl1_r, kBl2_s, pl_nil, pl_cons, kPL_s, e_rng1, kR1_v, e_rng2, kR2_v, kR2_r, kR2b_v, e_comp, kC1_v, kC1_r, cl_nil, cl_cons, kCL_y, kCL_n, s_step, kS1_s, kS2_t, kS2_f, kS3_v, t_seq, kSq_n, kSq_t, kSq_r, kSq_b, t_nop, t_asg, kAs1_v, kAs1_r, kAs2_s, t_par, kPa1_v, kPa2_v, par_d, t_ret, kRt_v, kRt_r, t_exp, kEx_v, kEx_r, t_ite, kIt_t, kIt_f, kIt_r, t_rse, t_brk, t_try, kTr_r, kTr_n, kTr_t, t_for, kF1_v, kF1_r, kF2_s, fl_nil, fl_cons, kFL_n, kFL_t, kFL_r, kFL_b, s_for, kSF_s, List.getElem?_cons_zero, List.getElem?_cons_succ, List.set_cons_zero, List.set_cons_succ, List.length_cons, List.length_nil, List.cons_append, List.nil_append, b_add, b_sub, b_mul, b_fdiv, b_mod, c_lt, c_le, c_gt, c_ge, c_eq, c_ne, c_eqi, c_nei, l_tup, l_list, l_abs, sq_t, sq_l, i_t1_0, i_l1_0, i_t2_0, i_l2_0, i_t2_1, i_l2_1, i_t3_0, i_l3_0, i_t3_1, i_l3_1, i_t3_2, i_l3_2, i_t4_0, i_l4_0, i_t4_1, i_l4_1, i_t4_2, i_l4_2, i_t4_3, i_l4_3, i_t5_0, i_l5_0, i_t5_1, i_l5_1, i_t5_2, i_l5_2, i_t5_3, i_l5_3, i_t5_4, i_l5_4, i_t6_0, i_l6_0, i_t6_1, i_l6_1, i_t6_2, i_l6_2, i_t6_3, i_l6_3, i_t6_4, i_l6_4, i_t6_5, i_l6_5, bt_nm, wp_nil, wp_cons, List.replicate, Nat.reduceSub, List.append_nil, Int.reduceLT, Int.reduceLE, Int.reduceBEq, Int.reduceSub, decide_true, decide_false, Bool.not_true, Bool.not_false, Bool.not_not, e_rz, e_rz1, e_ok, e_nx, isc_e, ln0, ln1, ln2, ln3, ln4, lt2, lt4, if_true, if_false, reduceIte, Bool.false_eq_true, bt_nil_t, bt_cons_t, bt_nil_l, bt_cons_l, Option.bind, e_okC, t_asgM, kM1_l, kM2_t, kM1_r, nr_nil, nr_d, nr_u, nr_r, bq_0, bq_0a, bl_1, bl_1z, bl_2, bl_2z, bl_21, bl_c1, bl_c1z, bl_c1y, bl_c1x, bl_c2, bl_c2z, bl_c21, g_1, g_2, g_21, s_1, s_2, s_21, t_apd2, kAp3_u, kAp4_t, kP1_v, kP1_r, kP2_l, kP3_v, kP3_r, e_ok1, e_nx1, e_ok2, e_rz2, e_ok1c, e_ok2c, kC2_u, kC3_t, e_dsel, kD1_v, kD2_v, e_mth, kMt1_v, kMt2_l, kMt3_v, kMt4_s, l_any4, l_all4, ist_s0, ist_i0, tr_bl, is_nn, is_bn, is_in, is_tn, is_ln, is_sn, nb0, nc0, nb1, nc1, nb2, nc2, nb3, nc3, nb4, nc4, nb5, nc5, nb6, nc6, nb7, nc7, nb8, nc8, nb9, nc9, nb10, nc10, nb11, nc11, nb12, nc12, nb13, nc13, nb14, nc14, nb15, nc15, nb16, nc16, nb17, nc17, nb18, nc18, nb19, nc19, nb20, nc20, nb21, nc21, nb22, nc22, nb23, nc23, nb24, nc24, nb25, nc25, nb26, nc26, nb27, nc27, nb28, nc28, nb29, nc29, nb30, nc30, nb31, nc31, nb32, nc32, nb33, nc33, nb34, nc34, nb35, nc35, nb36, nc36, nb37, nc37, nb38, nc38, nb39, nc39, nb40, nc40, r1_0, r1_1, r1_2, r1_3, r1_4, r1_5, r1_6, rgl_1, rgl_2, rgl_3, rgl_4, md_1, md_2, md_3, md_4, qt0, qt1, qt2, qt3, Int.reduceMul, Int.reduceNeg, Int.reduceAdd, Nat.add_zero, Nat.reduceAdd, Bool.true_and, Bool.and_true, Bool.false_and, Bool.and_false, Bool.or_false, Bool.false_or]
end

end Lq

namespace Lq
open PySem PySem.Spec PyProof.Rows L2 Cm

theorem turn_ok {m : Nat} {p g : Q} {k : Nat} (hp : okS m p) (hg : okS 7 g) (h : m * 882 ^ (k + 1) < 2 ^ 600) : okS (882 * m) (tm p g) ∧ 882 * m * 882 ^ k < 2 ^ 600 := ⟨tm_ok hp hg, by rw [Nat.pow_succ] at h; rw [show 882 * m * 882 ^ k = m * (882 ^ k * 882) by rw [Nat.mul_comm 882 m, Nat.mul_assoc, Nat.mul_comm 882]]; exact h⟩
theorem m_lt {m k : Nat} (h : m * 882 ^ k < 2 ^ 600) : m < 2 ^ 620 := by
  have : m * 1 ≤ m * 882 ^ k := Nat.mul_le_mul_left _ (Nat.one_le_pow _ _ (by decide))
  have : (2 : Nat) ^ 600 < 2 ^ 620 := by decide +kernel
  omega
section
variable {n w : Nat} {S : Sto} {s1 : Sl}
theorem tl_1 {s0 : Sl} : ∀ (gs : List Q) (s2 : Sl), (∀ g ∈ gs, okS 7 g) → ∃ s2', forL (stepF LW (callE LW Pr (n + 3)) w (.nm 2) (.exp (.call 5 (.cons (.arg 2) .nil)))) (gs.map Q.t) [s0, s1, s2] S = some (.nx, [s0, s1, s2'], S)
  | [], s2, _ => ⟨s2, rfl⟩
  | g :: gs, s2, h => by
    obtain ⟨s2', e⟩ := tl_1 gs (.d g.t) fun g' hg => h g' (List.mem_cons_of_mem _ hg)
    refine ⟨s2', ?_⟩
    have og := (h g List.mem_cons_self).q (by decide)
    have st : stepF LW (callE LW Pr (n + 3)) w (.nm 2) (.exp (.call 5 (.cons (.arg 2) .nil))) g.t [s0, s1, s2] S = some (.nx, [s0, s1, .d g.t], S) := by
      simp only [v_lc og, e_var, kV_d, kV_r, kVr_l, kVr_f, e_arg, kA_d, kA_r, e_lit, pk_d, pk_r, kPr_l, kPr_f, outD_s, outB_s, e_bin, kBin1_v, kBin1_r, kBin2_v, kBin2_r, kBin3_s, e_cmp, kCmp1_v, kCmp1_r, kCmp2_v, kCmp2_r, kCmp3_s, e_idx, kIdx1_v, kIdx1_r, kIdx2_v, kIdx2_r, kIdx3_s, e_neg, kNeg1_v, kNeg1_r, e_tru, kTru1_v, kTru1_r, kNeg2_s, kTru2_s, e_isc, kIsc1_v, kIsc1_r, kIsc2_s, e_and, kAnd_t, kAnd_f, kAnd_r, e_or, kOr_t, kOr_f, kOr_r, e_not, kNot_t, kNot_f, kNot_r, e_ifx, kIfx_t, kIfx_f, kIfx_r, e_chn, kCh1_v, kCh1_r, kCh2_v, kCh2_r, kChP_s, kChB_t, kChB_f, kCh3_v, kCh3_r, kCh4_s, e_nil, e_cons, kCs1_v, kCs1_r, kCs2_v, kCs2_r, e_tup, kTu1_v, kTu1_r, kTu2_0, kTu2_1, kTu2_2, kTu2_3, kTu2_4, kTu2_5, kTu2_6, kTu2_7, kTu2_8, e_lst, kLi1_v, kLi1_r, kLi2_0, kLi2_1, kLi2_2, kLi2_3, kLi2_4, kLi2_5, kLi2_6, kLi2_7, kLi2_8, datL, Option.map_some, e_call, kCa1_v, kCa1_r, kCa2_o, kCa2_r, e_blt, kBl1_v, kBl1_r, kBl2_s, pl_nil, pl_cons, kPL_s, e_rng1, kR1_v, e_rng2, kR2_v, kR2_r, kR2b_v, e_comp, kC1_v, kC1_r, cl_nil, cl_cons, kCL_y, kCL_n, s_step, kS1_s, kS2_t, kS2_f, kS3_v, t_seq, kSq_n, kSq_t, kSq_r, kSq_b, t_nop, t_asg, kAs1_v, kAs1_r, kAs2_s, t_par, kPa1_v, kPa2_v, par_d, t_ret, kRt_v, kRt_r, t_exp, kEx_v, kEx_r, t_ite, kIt_t, kIt_f, kIt_r, t_rse, t_brk, t_try, kTr_r, kTr_n, kTr_t, t_for, kF1_v, kF1_r, kF2_s, fl_nil, fl_cons, kFL_n, kFL_t, kFL_r, kFL_b, s_for, kSF_s, List.getElem?_cons_zero, List.getElem?_cons_succ, List.set_cons_zero, List.set_cons_succ, List.length_cons, List.length_nil, List.cons_append, List.nil_append, b_add, b_sub, b_mul, b_fdiv, b_mod, c_lt, c_le, c_gt, c_ge, c_eq, c_ne, c_eqi, c_nei, l_tup, l_list, l_abs, sq_t, sq_l, i_t1_0, i_l1_0, i_t2_0, i_l2_0, i_t2_1, i_l2_1, i_t3_0, i_l3_0, i_t3_1, i_l3_1, i_t3_2, i_l3_2, i_t4_0, i_l4_0, i_t4_1, i_l4_1, i_t4_2, i_l4_2, i_t4_3, i_l4_3, i_t5_0, i_l5_0, i_t5_1, i_l5_1, i_t5_2, i_l5_2, i_t5_3, i_l5_3, i_t5_4, i_l5_4, i_t6_0, i_l6_0, i_t6_1, i_l6_1, i_t6_2, i_l6_2, i_t6_3, i_l6_3, i_t6_4, i_l6_4, i_t6_5, i_l6_5, bt_nm, wp_nil, wp_cons, List.replicate, Nat.reduceSub, List.append_nil, Int.reduceLT, Int.reduceLE, Int.reduceBEq, Int.reduceSub, decide_true, decide_false, Bool.not_true, Bool.not_false, Bool.not_not, e_rz, e_rz1, e_ok, e_nx, isc_e, ln0, ln1, ln2, ln3, ln4, lt2, lt4, if_true, if_false, reduceIte, Bool.false_eq_true, bt_nil_t, bt_cons_t, bt_nil_l, bt_cons_l, Option.bind, e_okC, t_asgM, kM1_l, kM2_t, kM1_r, nr_nil, nr_d, nr_u, nr_r, bq_0, bq_0a, bl_1, bl_1z, bl_2, bl_2z, bl_21, bl_c1, bl_c1z, bl_c1y, bl_c1x, bl_c2, bl_c2z, bl_c21, g_1, g_2, g_21, s_1, s_2, s_21, t_apd2, kAp3_u, kAp4_t, kP1_v, kP1_r, kP2_l, kP3_v, kP3_r, e_ok1, e_nx1, e_ok2, e_rz2, e_ok1c, e_ok2c, kC2_u, kC3_t, e_dsel, kD1_v, kD2_v, e_mth, kMt1_v, kMt2_l, kMt3_v, kMt4_s, l_any4, l_all4, ist_s0, ist_i0, tr_bl, is_nn, is_bn, is_in, is_tn, is_ln, is_sn, nb0, nc0, nb1, nc1, nb2, nc2, nb3, nc3, nb4, nc4, nb5, nc5, nb6, nc6, nb7, nc7, nb8, nc8, nb9, nc9, nb10, nc10, nb11, nc11, nb12, nc12, nb13, nc13, nb14, nc14, nb15, nc15, nb16, nc16, nb17, nc17, nb18, nc18, nb19, nc19, nb20, nc20, nb21, nc21, nb22, nc22, nb23, nc23, nb24, nc24, nb25, nc25, nb26, nc26, nb27, nc27, nb28, nc28, nb29, nc29, nb30, nc30, nb31, nc31, nb32, nc32, nb33, nc33, nb34, nc34, nb35, nc35, nb36, nc36, nb37, nc37, nb38, nc38, nb39, nc39, nb40, nc40, r1_0, r1_1, r1_2, r1_3, r1_4, r1_5, r1_6, rgl_1, rgl_2, rgl_3, rgl_4, md_1, md_2, md_3, md_4, qt0, qt1, qt2, qt3, Int.reduceMul, Int.reduceNeg, Int.reduceAdd, Nat.add_zero, Nat.reduceAdd, Bool.true_and, Bool.and_true, Bool.false_and, Bool.and_false, Bool.or_false, Bool.false_or]
    show forL _ (g.t :: gs.map Q.t) _ S = _
    rw [fl_cons, st, kFL_n]
    exact e
theorem tl_2 : ∀ (gs : List Q) (m : Nat) (p : Q) (s2 : Sl), okS m p → m * 882 ^ gs.length < 2 ^ 600 → (∀ g ∈ gs, okS 7 g) → ∃ s2', forL (stepF LW (callE LW Pr (n + 3)) w (.nm 2) (.asg (.nm 0) (.call 3 (.cons (.call 6 (.cons (.arg 0) (.cons (.arg 2) .nil))) .nil)))) (gs.map Q.t) [.d p.t, s1, s2] S = some (.nx, [.d (gs.foldl tm p).t, s1, s2'], S)
  | [], m, p, s2, _, _, _ => ⟨s2, rfl⟩
  | g :: gs, m, p, s2, hp, hm, h => by
    have hg := h g List.mem_cons_self
    have bp := hp.le.bd (m_lt hm)
    obtain ⟨k1, k2⟩ := turn_ok hp hg hm
    obtain ⟨s2', e⟩ := tl_2 gs _ (tm p g) (.d g.t) k1 k2 fun g' hg => h g' (List.mem_cons_of_mem _ hg)
    refine ⟨s2', ?_⟩
    obtain ⟨t1, t2⟩ := v_tm (n := n + 1) (S := S) bp hp.pr hg
    have st : stepF LW (callE LW Pr (n + 3)) w (.nm 2) (.asg (.nm 0) (.call 3 (.cons (.call 6 (.cons (.arg 0) (.cons (.arg 2) .nil))) .nil))) g.t [.d p.t, s1, s2] S = some (.nx, [.d (tm p g).t, s1, .d g.t], S) := by
      simp only [t1, t2, e_var, kV_d, kV_r, kVr_l, kVr_f, e_arg, kA_d, kA_r, e_lit, pk_d, pk_r, kPr_l, kPr_f, outD_s, outB_s, e_bin, kBin1_v, kBin1_r, kBin2_v, kBin2_r, kBin3_s, e_cmp, kCmp1_v, kCmp1_r, kCmp2_v, kCmp2_r, kCmp3_s, e_idx, kIdx1_v, kIdx1_r, kIdx2_v, kIdx2_r, kIdx3_s, e_neg, kNeg1_v, kNeg1_r, e_tru, kTru1_v, kTru1_r, kNeg2_s, kTru2_s, e_isc, kIsc1_v, kIsc1_r, kIsc2_s, e_and, kAnd_t, kAnd_f, kAnd_r, e_or, kOr_t, kOr_f, kOr_r, e_not, kNot_t, kNot_f, kNot_r, e_ifx, kIfx_t, kIfx_f, kIfx_r, e_chn, kCh1_v, kCh1_r, kCh2_v, kCh2_r, kChP_s, kChB_t, kChB_f, kCh3_v, kCh3_r, kCh4_s, e_nil, e_cons, kCs1_v, kCs1_r, kCs2_v, kCs2_r, e_tup, kTu1_v, kTu1_r, kTu2_0, kTu2_1, kTu2_2, kTu2_3, kTu2_4, kTu2_5, kTu2_6, kTu2_7, kTu2_8, e_lst, kLi1_v, kLi1_r, kLi2_0, kLi2_1, kLi2_2, kLi2_3, kLi2_4, kLi2_5, kLi2_6, kLi2_7, kLi2_8, datL, Option.map_some, e_call, kCa1_v, kCa1_r, kCa2_o, kCa2_r, e_blt, kBl1_v, kBl1_r, kBl2_s, pl_nil, pl_cons, kPL_s, e_rng1, kR1_v, e_rng2, kR2_v, kR2_r, kR2b_v, e_comp, kC1_v, kC1_r, cl_nil, cl_cons, kCL_y, kCL_n, s_step, kS1_s, kS2_t, kS2_f, kS3_v, t_seq, kSq_n, kSq_t, kSq_r, kSq_b, t_nop, t_asg, kAs1_v, kAs1_r, kAs2_s, t_par, kPa1_v, kPa2_v, par_d, t_ret, kRt_v, kRt_r, t_exp, kEx_v, kEx_r, t_ite, kIt_t, kIt_f, kIt_r, t_rse, t_brk, t_try, kTr_r, kTr_n, kTr_t, t_for, kF1_v, kF1_r, kF2_s, fl_nil, fl_cons, kFL_n, kFL_t, kFL_r, kFL_b, s_for, kSF_s, List.getElem?_cons_zero, List.getElem?_cons_succ, List.set_cons_zero, List.set_cons_succ, List.length_cons, List.length_nil, List.cons_append, List.nil_append, b_add, b_sub, b_mul, b_fdiv, b_mod, c_lt, c_le, c_gt, c_ge, c_eq, c_ne, c_eqi, c_nei, l_tup, l_list, l_abs, sq_t, sq_l, i_t1_0, i_l1_0, i_t2_0, i_l2_0, i_t2_1, i_l2_1, i_t3_0, i_l3_0, i_t3_1, i_l3_1, i_t3_2, i_l3_2, i_t4_0, i_l4_0, i_t4_1, i_l4_1, i_t4_2, i_l4_2, i_t4_3, i_l4_3, i_t5_0, i_l5_0, i_t5_1, i_l5_1, i_t5_2, i_l5_2, i_t5_3, i_l5_3, i_t5_4, i_l5_4, i_t6_0, i_l6_0, i_t6_1, i_l6_1, i_t6_2, i_l6_2, i_t6_3, i_l6_3, i_t6_4, i_l6_4, i_t6_5, i_l6_5, bt_nm, wp_nil, wp_cons, List.replicate, Nat.reduceSub, List.append_nil, Int.reduceLT, Int.reduceLE, Int.reduceBEq, Int.reduceSub, decide_true, decide_false, Bool.not_true, Bool.not_false, Bool.not_not, e_rz, e_rz1, e_ok, e_nx, isc_e, ln0, ln1, ln2, ln3, ln4, lt2, lt4, if_true, if_false, reduceIte, Bool.false_eq_true, bt_nil_t, bt_cons_t, bt_nil_l, bt_cons_l, Option.bind, e_okC, t_asgM, kM1_l, kM2_t, kM1_r, nr_nil, nr_d, nr_u, nr_r, bq_0, bq_0a, bl_1, bl_1z, bl_2, bl_2z, bl_21, bl_c1, bl_c1z, bl_c1y, bl_c1x, bl_c2, bl_c2z, bl_c21, g_1, g_2, g_21, s_1, s_2, s_21, t_apd2, kAp3_u, kAp4_t, kP1_v, kP1_r, kP2_l, kP3_v, kP3_r, e_ok1, e_nx1, e_ok2, e_rz2, e_ok1c, e_ok2c, kC2_u, kC3_t, e_dsel, kD1_v, kD2_v, e_mth, kMt1_v, kMt2_l, kMt3_v, kMt4_s, l_any4, l_all4, ist_s0, ist_i0, tr_bl, is_nn, is_bn, is_in, is_tn, is_ln, is_sn, nb0, nc0, nb1, nc1, nb2, nc2, nb3, nc3, nb4, nc4, nb5, nc5, nb6, nc6, nb7, nc7, nb8, nc8, nb9, nc9, nb10, nc10, nb11, nc11, nb12, nc12, nb13, nc13, nb14, nc14, nb15, nc15, nb16, nc16, nb17, nc17, nb18, nc18, nb19, nc19, nb20, nc20, nb21, nc21, nb22, nc22, nb23, nc23, nb24, nc24, nb25, nc25, nb26, nc26, nb27, nc27, nb28, nc28, nb29, nc29, nb30, nc30, nb31, nc31, nb32, nc32, nb33, nc33, nb34, nc34, nb35, nc35, nb36, nc36, nb37, nc37, nb38, nc38, nb39, nc39, nb40, nc40, r1_0, r1_1, r1_2, r1_3, r1_4, r1_5, r1_6, rgl_1, rgl_2, rgl_3, rgl_4, md_1, md_2, md_3, md_4, qt0, qt1, qt2, qt3, Int.reduceMul, Int.reduceNeg, Int.reduceAdd, Nat.add_zero, Nat.reduceAdd, Bool.true_and, Bool.and_true, Bool.false_and, Bool.and_false, Bool.or_false, Bool.false_or]
    show forL _ (g.t :: gs.map Q.t) _ S = _
    rw [fl_cons, st, kFL_n]
    exact e
theorem v_turned {p : Q} {gs : List Q} (hp : okS 7 p) (hl : gs.length ≤ 10) (h : ∀ g ∈ gs, okS 7 g) : callE LW Pr (n + 4) 12 [.d p.t, .d (.lst (gs.map Q.t))] S = some (.ok (gs.foldl tm p).t, S) := by
  have op := hp.q (by decide)
  have hm : 7 * 882 ^ gs.length < 2 ^ 600 := Nat.lt_of_le_of_lt (Nat.mul_le_mul_left _ (Nat.pow_le_pow_right (by decide) hl)) (by decide +kernel)
  obtain ⟨a, e1⟩ := tl_1 (n := n) (w := List.length S) (S := S) (s0 := .d p.t) (s1 := .d (.lst (gs.map Q.t))) gs .un h
  obtain ⟨b, e2⟩ := tl_2 (n := n) (w := List.length S) (S := S) (s1 := .d (.lst (gs.map Q.t))) gs 7 p a hp hm h
  generalize gs.map Q.t = ys at *
  simp only [u_turned, i_turned, v_lc op, e1, e2, e_var, kV_d, kV_r, kVr_l, kVr_f, e_arg, kA_d, kA_r, e_lit, pk_d, pk_r, kPr_l, kPr_f, outD_s, outB_s, e_bin, kBin1_v, kBin1_r, kBin2_v, kBin2_r, kBin3_s, e_cmp, kCmp1_v, kCmp1_r, kCmp2_v, kCmp2_r, kCmp3_s, e_idx, kIdx1_v, kIdx1_r, kIdx2_v, kIdx2_r, kIdx3_s, e_neg, kNeg1_v, kNeg1_r, e_tru, kTru1_v, kTru1_r, kNeg2_s, kTru2_s, e_isc, kIsc1_v, kIsc1_r, kIsc2_s, e_and, kAnd_t, kAnd_f, kAnd_r, e_or, kOr_t, kOr_f, kOr_r, e_not, kNot_t, kNot_f, kNot_r, e_ifx, kIfx_t, kIfx_f, kIfx_r, e_chn, kCh1_v, kCh1_r, kCh2_v, kCh2_r, kChP_s, kChB_t, kChB_f, kCh3_v, kCh3_r, kCh4_s, e_nil, e_cons, kCs1_v, kCs1_r, kCs2_v, kCs2_r, e_tup, kTu1_v, kTu1_r, kTu2_0, kTu2_1, kTu2_2, kTu2_3, kTu2_4, kTu2_5, kTu2_6, kTu2_7, kTu2_8, e_lst, kLi1_v, kLi1_r, kLi2_0, kLi2_1, kLi2_2, kLi2_3, kLi2_4, kLi2_5, kLi2_6, kLi2_7, kLi2_8, datL, Option.map_some, e_call, kCa1_v, kCa1_r, kCa2_o, kCa2_r, e_blt, kBl1_v, kBl1_r, kBl2_s, pl_nil, pl_cons, kPL_s, e_rng1, kR1_v, e_rng2, kR2_v, kR2_r, kR2b_v, e_comp, kC1_v, kC1_r, cl_nil, cl_cons, kCL_y, kCL_n, s_step, kS1_s, kS2_t, kS2_f, kS3_v, t_seq, kSq_n, kSq_t, kSq_r, kSq_b, t_nop, t_asg, kAs1_v, kAs1_r, kAs2_s, t_par, kPa1_v, kPa2_v, par_d, t_ret, kRt_v, kRt_r, t_exp, kEx_v, kEx_r, t_ite, kIt_t, kIt_f, kIt_r, t_rse, t_brk, t_try, kTr_r, kTr_n, kTr_t, t_for, kF1_v, kF1_r, kF2_s, fl_nil, fl_cons, kFL_n, kFL_t, kFL_r, kFL_b, s_for, kSF_s, List.getElem?_cons_zero, List.getElem?_cons_succ, List.set_cons_zero, List.set_cons_succ, List.length_cons, List.length_nil, List.cons_append, List.nil_append, b_add, b_sub, b_mul, b_fdiv, b_mod, c_lt, c_le, c_gt, c_ge, c_eq, c_ne, c_eqi, c_nei, l_tup, l_list, l_abs, sq_t, sq_l, i_t1_0, i_l1_0, i_t2_0, i_l2_0, i_t2_1, i_l2_1, i_t3_0, i_l3_0, i_t3_1, i_l3_1, i_t3_2, i_l3_2, i_t4_0, i_l4_0, i_t4_1, i_l4_1, i_t4_2, i_l4_2, i_t4_3, i_l4_3, i_t5_0, i_l5_0, i_t5_1, i_l5_1, i_t5_2, i_l5_2, i_t5_3, i_l5_3, i_t5_4, i_l5_4, i_t6_0, i_l6_0, i_t6_1, i_l6_1, i_t6_2, i_l6_2, i_t6_3, i_l6_3, i_t6_4, i_l6_4, i_t6_5, i_l6_5, bt_nm, wp_nil, wp_cons, List.replicate, Nat.reduceSub, List.append_nil, Int.reduceLT, Int.reduceLE, Int.reduceBEq, Int.reduceSub, decide_true, decide_false, Bool.not_true, Bool.not_false, Bool.not_not, e_rz, e_rz1, e_ok, e_nx, isc_e, ln0, ln1, ln2, ln3, ln4, lt2, lt4, if_true, if_false, reduceIte, Bool.false_eq_true, bt_nil_t, bt_cons_t, bt_nil_l, bt_cons_l, Option.bind, e_okC, t_asgM, kM1_l, kM2_t, kM1_r, nr_nil, nr_d, nr_u, nr_r, bq_0, bq_0a, bl_1, bl_1z, bl_2, bl_2z, bl_21, bl_c1, bl_c1z, bl_c1y, bl_c1x, bl_c2, bl_c2z, bl_c21, g_1, g_2, g_21, s_1, s_2, s_21, t_apd2, kAp3_u, kAp4_t, kP1_v, kP1_r, kP2_l, kP3_v, kP3_r, e_ok1, e_nx1, e_ok2, e_rz2, e_ok1c, e_ok2c, kC2_u, kC3_t, e_dsel, kD1_v, kD2_v, e_mth, kMt1_v, kMt2_l, kMt3_v, kMt4_s, l_any4, l_all4, ist_s0, ist_i0, tr_bl, is_nn, is_bn, is_in, is_tn, is_ln, is_sn, nb0, nc0, nb1, nc1, nb2, nc2, nb3, nc3, nb4, nc4, nb5, nc5, nb6, nc6, nb7, nc7, nb8, nc8, nb9, nc9, nb10, nc10, nb11, nc11, nb12, nc12, nb13, nc13, nb14, nc14, nb15, nc15, nb16, nc16, nb17, nc17, nb18, nc18, nb19, nc19, nb20, nc20, nb21, nc21, nb22, nc22, nb23, nc23, nb24, nc24, nb25, nc25, nb26, nc26, nb27, nc27, nb28, nc28, nb29, nc29, nb30, nc30, nb31, nc31, nb32, nc32, nb33, nc33, nb34, nc34, nb35, nc35, nb36, nc36, nb37, nc37, nb38, nc38, nb39, nc39, nb40, nc40, r1_0, r1_1, r1_2, r1_3, r1_4, r1_5, r1_6, rgl_1, rgl_2, rgl_3, rgl_4, md_1, md_2, md_3, md_4, qt0, qt1, qt2, qt3, Int.reduceMul, Int.reduceNeg, Int.reduceAdd, Nat.add_zero, Nat.reduceAdd, Bool.true_and, Bool.and_true, Bool.false_and, Bool.and_false, Bool.or_false, Bool.false_or]
end
/-- the law's mirrors, one behind the other -/
def lhB : T := (.asg (.nm 8) (.call 23 (.cons (.arg 8) (.cons (.arg 9) .nil))))
theorem lh_loop {n w : Nat} {S : Sto} {s0 s1 s2 s3 s4 s5 s6 s7 s10 : Sl} : ∀ (gs : List Q) (m : Nat) (p : Q) (s9 : Sl), okS m p → m * 882 ^ gs.length < 2 ^ 600 → (∀ g ∈ gs, okS 7 g) → ∃ s9', forL (stepF LW (callE LW Pr (n + 3)) w (.nm 9) lhB) (gs.map Q.t) [s0, s1, s2, s3, s4, s5, s6, s7, .d p.t, s9, s10] S = some (.nx, [s0, s1, s2, s3, s4, s5, s6, s7, .d (gs.foldl tm p).t, s9', s10], S)
  | [], m, p, s9, _, _, _ => ⟨s9, rfl⟩
  | g :: gs, m, p, s9, hp, hm, h => by
    have hg := h g List.mem_cons_self
    have bp := hp.le.bd (m_lt hm)
    obtain ⟨k1, k2⟩ := turn_ok hp hg hm
    obtain ⟨s9', e⟩ := lh_loop gs _ (tm p g) (.d g.t) k1 k2 fun g' hg => h g' (List.mem_cons_of_mem _ hg)
    refine ⟨s9', ?_⟩
    have t1 := v_lm (n := n + 1) (S := S) bp hp.pr hg
    have st : stepF LW (callE LW Pr (n + 3)) w (.nm 9) lhB g.t [s0, s1, s2, s3, s4, s5, s6, s7, .d p.t, s9, s10] S = some (.nx, [s0, s1, s2, s3, s4, s5, s6, s7, .d (tm p g).t, .d g.t, s10], S) := by
      simp only [lhB, t1, e_var, kV_d, kV_r, kVr_l, kVr_f, e_arg, kA_d, kA_r, e_lit, pk_d, pk_r, kPr_l, kPr_f, outD_s, outB_s, e_bin, kBin1_v, kBin1_r, kBin2_v, kBin2_r, kBin3_s, e_cmp, kCmp1_v, kCmp1_r, kCmp2_v, kCmp2_r, kCmp3_s, e_idx, kIdx1_v, kIdx1_r, kIdx2_v, kIdx2_r, kIdx3_s, e_neg, kNeg1_v, kNeg1_r, e_tru, kTru1_v, kTru1_r, kNeg2_s, kTru2_s, e_isc, kIsc1_v, kIsc1_r, kIsc2_s, e_and, kAnd_t, kAnd_f, kAnd_r, e_or, kOr_t, kOr_f, kOr_r, e_not, kNot_t, kNot_f, kNot_r, e_ifx, kIfx_t, kIfx_f, kIfx_r, e_chn, kCh1_v, kCh1_r, kCh2_v, kCh2_r, kChP_s, kChB_t, kChB_f, kCh3_v, kCh3_r, kCh4_s, e_nil, e_cons, kCs1_v, kCs1_r, kCs2_v, kCs2_r, e_tup, kTu1_v, kTu1_r, kTu2_0, kTu2_1, kTu2_2, kTu2_3, kTu2_4, kTu2_5, kTu2_6, kTu2_7, kTu2_8, e_lst, kLi1_v, kLi1_r, kLi2_0, kLi2_1, kLi2_2, kLi2_3, kLi2_4, kLi2_5, kLi2_6, kLi2_7, kLi2_8, datL, Option.map_some, e_call, kCa1_v, kCa1_r, kCa2_o, kCa2_r, e_blt, kBl1_v, kBl1_r, kBl2_s, pl_nil, pl_cons, kPL_s, e_rng1, kR1_v, e_rng2, kR2_v, kR2_r, kR2b_v, e_comp, kC1_v, kC1_r, cl_nil, cl_cons, kCL_y, kCL_n, s_step, kS1_s, kS2_t, kS2_f, kS3_v, t_seq, kSq_n, kSq_t, kSq_r, kSq_b, t_nop, t_asg, kAs1_v, kAs1_r, kAs2_s, t_par, kPa1_v, kPa2_v, par_d, t_ret, kRt_v, kRt_r, t_exp, kEx_v, kEx_r, t_ite, kIt_t, kIt_f, kIt_r, t_rse, t_brk, t_try, kTr_r, kTr_n, kTr_t, t_for, kF1_v, kF1_r, kF2_s, fl_nil, fl_cons, kFL_n, kFL_t, kFL_r, kFL_b, s_for, kSF_s, List.getElem?_cons_zero, List.getElem?_cons_succ, List.set_cons_zero, List.set_cons_succ, List.length_cons, List.length_nil, List.cons_append, List.nil_append, b_add, b_sub, b_mul, b_fdiv, b_mod, c_lt, c_le, c_gt, c_ge, c_eq, c_ne, c_eqi, c_nei, l_tup, l_list, l_abs, sq_t, sq_l, i_t1_0, i_l1_0, i_t2_0, i_l2_0, i_t2_1, i_l2_1, i_t3_0, i_l3_0, i_t3_1, i_l3_1, i_t3_2, i_l3_2, i_t4_0, i_l4_0, i_t4_1, i_l4_1, i_t4_2, i_l4_2, i_t4_3, i_l4_3, i_t5_0, i_l5_0, i_t5_1, i_l5_1, i_t5_2, i_l5_2, i_t5_3, i_l5_3, i_t5_4, i_l5_4, i_t6_0, i_l6_0, i_t6_1, i_l6_1, i_t6_2, i_l6_2, i_t6_3, i_l6_3, i_t6_4, i_l6_4, i_t6_5, i_l6_5, bt_nm, wp_nil, wp_cons, List.replicate, Nat.reduceSub, List.append_nil, Int.reduceLT, Int.reduceLE, Int.reduceBEq, Int.reduceSub, decide_true, decide_false, Bool.not_true, Bool.not_false, Bool.not_not, e_rz, e_rz1, e_ok, e_nx, isc_e, ln0, ln1, ln2, ln3, ln4, lt2, lt4, if_true, if_false, reduceIte, Bool.false_eq_true, bt_nil_t, bt_cons_t, bt_nil_l, bt_cons_l, Option.bind, e_okC, t_asgM, kM1_l, kM2_t, kM1_r, nr_nil, nr_d, nr_u, nr_r, bq_0, bq_0a, bl_1, bl_1z, bl_2, bl_2z, bl_21, bl_c1, bl_c1z, bl_c1y, bl_c1x, bl_c2, bl_c2z, bl_c21, g_1, g_2, g_21, s_1, s_2, s_21, t_apd2, kAp3_u, kAp4_t, kP1_v, kP1_r, kP2_l, kP3_v, kP3_r, e_ok1, e_nx1, e_ok2, e_rz2, e_ok1c, e_ok2c, kC2_u, kC3_t, e_dsel, kD1_v, kD2_v, e_mth, kMt1_v, kMt2_l, kMt3_v, kMt4_s, l_any4, l_all4, ist_s0, ist_i0, tr_bl, is_nn, is_bn, is_in, is_tn, is_ln, is_sn, nb0, nc0, nb1, nc1, nb2, nc2, nb3, nc3, nb4, nc4, nb5, nc5, nb6, nc6, nb7, nc7, nb8, nc8, nb9, nc9, nb10, nc10, nb11, nc11, nb12, nc12, nb13, nc13, nb14, nc14, nb15, nc15, nb16, nc16, nb17, nc17, nb18, nc18, nb19, nc19, nb20, nc20, nb21, nc21, nb22, nc22, nb23, nc23, nb24, nc24, nb25, nc25, nb26, nc26, nb27, nc27, nb28, nc28, nb29, nc29, nb30, nc30, nb31, nc31, nb32, nc32, nb33, nc33, nb34, nc34, nb35, nc35, nb36, nc36, nb37, nc37, nb38, nc38, nb39, nc39, nb40, nc40, r1_0, r1_1, r1_2, r1_3, r1_4, r1_5, r1_6, rgl_1, rgl_2, rgl_3, rgl_4, md_1, md_2, md_3, md_4, qt0, qt1, qt2, qt3, Int.reduceMul, Int.reduceNeg, Int.reduceAdd, Nat.add_zero, Nat.reduceAdd, Bool.true_and, Bool.and_true, Bool.false_and, Bool.and_false, Bool.or_false, Bool.false_or]
    show forL _ (g.t :: gs.map Q.t) _ S = _
    rw [fl_cons, st, kFL_n]
    exact e
/-- so many circles drawn -/
theorem circs {n : Nat} {R : Sto} {ns : List Int} {s2 s3 s4 s5 s6 s7 s8 s9 : Sl} : ∀ (j s : Nat) (xs acc : List D), xs.length + 5 * j < 800000 → ∃ (gs : List Q) (xs' : List D), gs.length = j ∧ (∀ g ∈ gs, okS 7 g) ∧ xs'.length = xs.length + 5 * j ∧
    compL (stepC LW (callE LW Pr (n + 4)) (.nm 10) (.lit (.bl true)) (.call 21 (.cons (.arg 0) (.cons (.arg 1) .nil))) [.d (.scr ns), .ref 0, s2, s3, s4, s5, s6, s7, s8, s9, .un]) (loL s j) acc (.live (.lst xs) :: R) = some (.v (.d (.lst (acc ++ gs.map Q.t))), .live (.lst xs') :: R)
  | 0, s, xs, acc, _ => ⟨[], xs, rfl, (fun _ h => nomatch h), rfl, by rw [List.map_nil, List.append_nil]; rfl⟩
  | j + 1, s, xs, acc, h => by
    obtain ⟨a, b, c, d, k, e⟩ := ev_circle (n := n) (L := LW) ls (ns := ns) (xs := xs) (by omega) (R := R)
    obtain ⟨gs, xs', h1, h2, h3, h4⟩ := circs j (s + 1) (xs ++ [.int 0, .int 0, .int 0, .int 0, .int 0]) (acc ++ [Q.t ⟨a, b, c, d⟩]) (by simp; omega)
    refine ⟨⟨a, b, c, d⟩ :: gs, xs', by rw [List.length_cons, h1], fun g hg => ?_, by rw [h3]; simp; omega, ?_⟩
    · rcases List.mem_cons.mp hg with e | e
      · rw [e]; exact k
      · exact h2 g e
    · show compL _ (.int (s : Int) :: loL (s + 1) j) acc _ = _
      have st : stepC LW (callE LW Pr (n + 4)) (.nm 10) (.lit (.bl true)) (.call 21 (.cons (.arg 0) (.cons (.arg 1) .nil))) [.d (.scr ns), .ref 0, s2, s3, s4, s5, s6, s7, s8, s9, .un] (.int (s : Int)) (.live (.lst xs) :: R) = some (some (Q.t ⟨a, b, c, d⟩), .live (.lst (xs ++ [.int 0, .int 0, .int 0, .int 0, .int 0])) :: R) := by
        have e : callE LW Pr (n + 4) 21 [.d (.scr ns), .ref 0] (.live (.lst xs) :: R) = some (.ok (Q.t ⟨a, b, c, d⟩), .live (.lst (xs ++ [.int 0, .int 0, .int 0, .int 0, .int 0])) :: R) := e
        generalize Q.t ⟨a, b, c, d⟩ = qt at *
        simp only [e, e_var, kV_d, kV_r, kVr_l, kVr_f, e_arg, kA_d, kA_r, e_lit, pk_d, pk_r, kPr_l, kPr_f, outD_s, outB_s, e_bin, kBin1_v, kBin1_r, kBin2_v, kBin2_r, kBin3_s, e_cmp, kCmp1_v, kCmp1_r, kCmp2_v, kCmp2_r, kCmp3_s, e_idx, kIdx1_v, kIdx1_r, kIdx2_v, kIdx2_r, kIdx3_s, e_neg, kNeg1_v, kNeg1_r, e_tru, kTru1_v, kTru1_r, kNeg2_s, kTru2_s, e_isc, kIsc1_v, kIsc1_r, kIsc2_s, e_and, kAnd_t, kAnd_f, kAnd_r, e_or, kOr_t, kOr_f, kOr_r, e_not, kNot_t, kNot_f, kNot_r, e_ifx, kIfx_t, kIfx_f, kIfx_r, e_chn, kCh1_v, kCh1_r, kCh2_v, kCh2_r, kChP_s, kChB_t, kChB_f, kCh3_v, kCh3_r, kCh4_s, e_nil, e_cons, kCs1_v, kCs1_r, kCs2_v, kCs2_r, e_tup, kTu1_v, kTu1_r, kTu2_0, kTu2_1, kTu2_2, kTu2_3, kTu2_4, kTu2_5, kTu2_6, kTu2_7, kTu2_8, e_lst, kLi1_v, kLi1_r, kLi2_0, kLi2_1, kLi2_2, kLi2_3, kLi2_4, kLi2_5, kLi2_6, kLi2_7, kLi2_8, datL, Option.map_some, e_call, kCa1_v, kCa1_r, kCa2_o, kCa2_r, e_blt, kBl1_v, kBl1_r, kBl2_s, pl_nil, pl_cons, kPL_s, e_rng1, kR1_v, e_rng2, kR2_v, kR2_r, kR2b_v, e_comp, kC1_v, kC1_r, cl_nil, cl_cons, kCL_y, kCL_n, s_step, kS1_s, kS2_t, kS2_f, kS3_v, t_seq, kSq_n, kSq_t, kSq_r, kSq_b, t_nop, t_asg, kAs1_v, kAs1_r, kAs2_s, t_par, kPa1_v, kPa2_v, par_d, t_ret, kRt_v, kRt_r, t_exp, kEx_v, kEx_r, t_ite, kIt_t, kIt_f, kIt_r, t_rse, t_brk, t_try, kTr_r, kTr_n, kTr_t, t_for, kF1_v, kF1_r, kF2_s, fl_nil, fl_cons, kFL_n, kFL_t, kFL_r, kFL_b, s_for, kSF_s, List.getElem?_cons_zero, List.getElem?_cons_succ, List.set_cons_zero, List.set_cons_succ, List.length_cons, List.length_nil, List.cons_append, List.nil_append, b_add, b_sub, b_mul, b_fdiv, b_mod, c_lt, c_le, c_gt, c_ge, c_eq, c_ne, c_eqi, c_nei, l_tup, l_list, l_abs, sq_t, sq_l, i_t1_0, i_l1_0, i_t2_0, i_l2_0, i_t2_1, i_l2_1, i_t3_0, i_l3_0, i_t3_1, i_l3_1, i_t3_2, i_l3_2, i_t4_0, i_l4_0, i_t4_1, i_l4_1, i_t4_2, i_l4_2, i_t4_3, i_l4_3, i_t5_0, i_l5_0, i_t5_1, i_l5_1, i_t5_2, i_l5_2, i_t5_3, i_l5_3, i_t5_4, i_l5_4, i_t6_0, i_l6_0, i_t6_1, i_l6_1, i_t6_2, i_l6_2, i_t6_3, i_l6_3, i_t6_4, i_l6_4, i_t6_5, i_l6_5, bt_nm, wp_nil, wp_cons, List.replicate, Nat.reduceSub, List.append_nil, Int.reduceLT, Int.reduceLE, Int.reduceBEq, Int.reduceSub, decide_true, decide_false, Bool.not_true, Bool.not_false, Bool.not_not, e_rz, e_rz1, e_ok, e_nx, isc_e, ln0, ln1, ln2, ln3, ln4, lt2, lt4, if_true, if_false, reduceIte, Bool.false_eq_true, bt_nil_t, bt_cons_t, bt_nil_l, bt_cons_l, Option.bind, e_okC, t_asgM, kM1_l, kM2_t, kM1_r, nr_nil, nr_d, nr_u, nr_r, bq_0, bq_0a, bl_1, bl_1z, bl_2, bl_2z, bl_21, bl_c1, bl_c1z, bl_c1y, bl_c1x, bl_c2, bl_c2z, bl_c21, g_1, g_2, g_21, s_1, s_2, s_21, t_apd2, kAp3_u, kAp4_t, kP1_v, kP1_r, kP2_l, kP3_v, kP3_r, e_ok1, e_nx1, e_ok2, e_rz2, e_ok1c, e_ok2c, kC2_u, kC3_t, e_dsel, kD1_v, kD2_v, e_mth, kMt1_v, kMt2_l, kMt3_v, kMt4_s, l_any4, l_all4, ist_s0, ist_i0, tr_bl, is_nn, is_bn, is_in, is_tn, is_ln, is_sn, nb0, nc0, nb1, nc1, nb2, nc2, nb3, nc3, nb4, nc4, nb5, nc5, nb6, nc6, nb7, nc7, nb8, nc8, nb9, nc9, nb10, nc10, nb11, nc11, nb12, nc12, nb13, nc13, nb14, nc14, nb15, nc15, nb16, nc16, nb17, nc17, nb18, nc18, nb19, nc19, nb20, nc20, nb21, nc21, nb22, nc22, nb23, nc23, nb24, nc24, nb25, nc25, nb26, nc26, nb27, nc27, nb28, nc28, nb29, nc29, nb30, nc30, nb31, nc31, nb32, nc32, nb33, nc33, nb34, nc34, nb35, nc35, nb36, nc36, nb37, nc37, nb38, nc38, nb39, nc39, nb40, nc40, r1_0, r1_1, r1_2, r1_3, r1_4, r1_5, r1_6, rgl_1, rgl_2, rgl_3, rgl_4, md_1, md_2, md_3, md_4, qt0, qt1, qt2, qt3, Int.reduceMul, Int.reduceNeg, Int.reduceAdd, Nat.add_zero, Nat.reduceAdd, Bool.true_and, Bool.and_true, Bool.false_and, Bool.and_false, Bool.or_false, Bool.false_or]
      rw [cl_cons, st, kCL_y, h4, List.map_cons, List.append_assoc]
      rfl
/-! told -/
theorem to_ok0 {n : Nat} {S : Sto} {s1 s2 x : D} (h : callE LW Pr (n + 1) 11 [.d s1, .d s2] S = some (.ok x, S)) : callE LW Pr (n + 2) 22 [.d (.int 0), .d s1, .d s2, .d (.int 0), .d (.int 0)] S = some (.ok x, S) := by
  simp only [u__law_told, i__law_told, h, e_var, kV_d, kV_r, kVr_l, kVr_f, e_arg, kA_d, kA_r, e_lit, pk_d, pk_r, kPr_l, kPr_f, outD_s, outB_s, e_bin, kBin1_v, kBin1_r, kBin2_v, kBin2_r, kBin3_s, e_cmp, kCmp1_v, kCmp1_r, kCmp2_v, kCmp2_r, kCmp3_s, e_idx, kIdx1_v, kIdx1_r, kIdx2_v, kIdx2_r, kIdx3_s, e_neg, kNeg1_v, kNeg1_r, e_tru, kTru1_v, kTru1_r, kNeg2_s, kTru2_s, e_isc, kIsc1_v, kIsc1_r, kIsc2_s, e_and, kAnd_t, kAnd_f, kAnd_r, e_or, kOr_t, kOr_f, kOr_r, e_not, kNot_t, kNot_f, kNot_r, e_ifx, kIfx_t, kIfx_f, kIfx_r, e_chn, kCh1_v, kCh1_r, kCh2_v, kCh2_r, kChP_s, kChB_t, kChB_f, kCh3_v, kCh3_r, kCh4_s, e_nil, e_cons, kCs1_v, kCs1_r, kCs2_v, kCs2_r, e_tup, kTu1_v, kTu1_r, kTu2_0, kTu2_1, kTu2_2, kTu2_3, kTu2_4, kTu2_5, kTu2_6, kTu2_7, kTu2_8, e_lst, kLi1_v, kLi1_r, kLi2_0, kLi2_1, kLi2_2, kLi2_3, kLi2_4, kLi2_5, kLi2_6, kLi2_7, kLi2_8, datL, Option.map_some, e_call, kCa1_v, kCa1_r, kCa2_o, kCa2_r, e_blt, kBl1_v, kBl1_r, kBl2_s, pl_nil, pl_cons, kPL_s, e_rng1, kR1_v, e_rng2, kR2_v, kR2_r, kR2b_v, e_comp, kC1_v, kC1_r, cl_nil, cl_cons, kCL_y, kCL_n, s_step, kS1_s, kS2_t, kS2_f, kS3_v, t_seq, kSq_n, kSq_t, kSq_r, kSq_b, t_nop, t_asg, kAs1_v, kAs1_r, kAs2_s, t_par, kPa1_v, kPa2_v, par_d, t_ret, kRt_v, kRt_r, t_exp, kEx_v, kEx_r, t_ite, kIt_t, kIt_f, kIt_r, t_rse, t_brk, t_try, kTr_r, kTr_n, kTr_t, t_for, kF1_v, kF1_r, kF2_s, fl_nil, fl_cons, kFL_n, kFL_t, kFL_r, kFL_b, s_for, kSF_s, List.getElem?_cons_zero, List.getElem?_cons_succ, List.set_cons_zero, List.set_cons_succ, List.length_cons, List.length_nil, List.cons_append, List.nil_append, b_add, b_sub, b_mul, b_fdiv, b_mod, c_lt, c_le, c_gt, c_ge, c_eq, c_ne, c_eqi, c_nei, l_tup, l_list, l_abs, sq_t, sq_l, i_t1_0, i_l1_0, i_t2_0, i_l2_0, i_t2_1, i_l2_1, i_t3_0, i_l3_0, i_t3_1, i_l3_1, i_t3_2, i_l3_2, i_t4_0, i_l4_0, i_t4_1, i_l4_1, i_t4_2, i_l4_2, i_t4_3, i_l4_3, i_t5_0, i_l5_0, i_t5_1, i_l5_1, i_t5_2, i_l5_2, i_t5_3, i_l5_3, i_t5_4, i_l5_4, i_t6_0, i_l6_0, i_t6_1, i_l6_1, i_t6_2, i_l6_2, i_t6_3, i_l6_3, i_t6_4, i_l6_4, i_t6_5, i_l6_5, bt_nm, wp_nil, wp_cons, List.replicate, Nat.reduceSub, List.append_nil, Int.reduceLT, Int.reduceLE, Int.reduceBEq, Int.reduceSub, decide_true, decide_false, Bool.not_true, Bool.not_false, Bool.not_not, e_rz, e_rz1, e_ok, e_nx, isc_e, ln0, ln1, ln2, ln3, ln4, lt2, lt4, if_true, if_false, reduceIte, Bool.false_eq_true, bt_nil_t, bt_cons_t, bt_nil_l, bt_cons_l, Option.bind, e_okC, t_asgM, kM1_l, kM2_t, kM1_r, nr_nil, nr_d, nr_u, nr_r, bq_0, bq_0a, bl_1, bl_1z, bl_2, bl_2z, bl_21, bl_c1, bl_c1z, bl_c1y, bl_c1x, bl_c2, bl_c2z, bl_c21, g_1, g_2, g_21, s_1, s_2, s_21, t_apd2, kAp3_u, kAp4_t, kP1_v, kP1_r, kP2_l, kP3_v, kP3_r, e_ok1, e_nx1, e_ok2, e_rz2, e_ok1c, e_ok2c, kC2_u, kC3_t, e_dsel, kD1_v, kD2_v, e_mth, kMt1_v, kMt2_l, kMt3_v, kMt4_s, l_any4, l_all4, ist_s0, ist_i0, tr_bl, is_nn, is_bn, is_in, is_tn, is_ln, is_sn, nb0, nc0, nb1, nc1, nb2, nc2, nb3, nc3, nb4, nc4, nb5, nc5, nb6, nc6, nb7, nc7, nb8, nc8, nb9, nc9, nb10, nc10, nb11, nc11, nb12, nc12, nb13, nc13, nb14, nc14, nb15, nc15, nb16, nc16, nb17, nc17, nb18, nc18, nb19, nc19, nb20, nc20, nb21, nc21, nb22, nc22, nb23, nc23, nb24, nc24, nb25, nc25, nb26, nc26, nb27, nc27, nb28, nc28, nb29, nc29, nb30, nc30, nb31, nc31, nb32, nc32, nb33, nc33, nb34, nc34, nb35, nc35, nb36, nc36, nb37, nc37, nb38, nc38, nb39, nc39, nb40, nc40, r1_0, r1_1, r1_2, r1_3, r1_4, r1_5, r1_6, rgl_1, rgl_2, rgl_3, rgl_4, md_1, md_2, md_3, md_4, qt0, qt1, qt2, qt3, Int.reduceMul, Int.reduceNeg, Int.reduceAdd, Nat.add_zero, Nat.reduceAdd, Bool.true_and, Bool.and_true, Bool.false_and, Bool.and_false, Bool.or_false, Bool.false_or]
theorem to_rz0 {n : Nat} {S : Sto} {s1 s2 : D} (h : callE LW Pr (n + 1) 11 [.d s1, .d s2] S = some (.rz 4, S)) : callE LW Pr (n + 2) 22 [.d (.int 0), .d s1, .d s2, .d (.int 0), .d (.int 0)] S = some (.ok (.tup [.str "refused", .str "none"]), S) := by
  have r := v_ref4 (n := n) (S := S)
  simp only [u__law_told, i__law_told, h, r, e_var, kV_d, kV_r, kVr_l, kVr_f, e_arg, kA_d, kA_r, e_lit, pk_d, pk_r, kPr_l, kPr_f, outD_s, outB_s, e_bin, kBin1_v, kBin1_r, kBin2_v, kBin2_r, kBin3_s, e_cmp, kCmp1_v, kCmp1_r, kCmp2_v, kCmp2_r, kCmp3_s, e_idx, kIdx1_v, kIdx1_r, kIdx2_v, kIdx2_r, kIdx3_s, e_neg, kNeg1_v, kNeg1_r, e_tru, kTru1_v, kTru1_r, kNeg2_s, kTru2_s, e_isc, kIsc1_v, kIsc1_r, kIsc2_s, e_and, kAnd_t, kAnd_f, kAnd_r, e_or, kOr_t, kOr_f, kOr_r, e_not, kNot_t, kNot_f, kNot_r, e_ifx, kIfx_t, kIfx_f, kIfx_r, e_chn, kCh1_v, kCh1_r, kCh2_v, kCh2_r, kChP_s, kChB_t, kChB_f, kCh3_v, kCh3_r, kCh4_s, e_nil, e_cons, kCs1_v, kCs1_r, kCs2_v, kCs2_r, e_tup, kTu1_v, kTu1_r, kTu2_0, kTu2_1, kTu2_2, kTu2_3, kTu2_4, kTu2_5, kTu2_6, kTu2_7, kTu2_8, e_lst, kLi1_v, kLi1_r, kLi2_0, kLi2_1, kLi2_2, kLi2_3, kLi2_4, kLi2_5, kLi2_6, kLi2_7, kLi2_8, datL, Option.map_some, e_call, kCa1_v, kCa1_r, kCa2_o, kCa2_r, e_blt, kBl1_v, kBl1_r, kBl2_s, pl_nil, pl_cons, kPL_s, e_rng1, kR1_v, e_rng2, kR2_v, kR2_r, kR2b_v, e_comp, kC1_v, kC1_r, cl_nil, cl_cons, kCL_y, kCL_n, s_step, kS1_s, kS2_t, kS2_f, kS3_v, t_seq, kSq_n, kSq_t, kSq_r, kSq_b, t_nop, t_asg, kAs1_v, kAs1_r, kAs2_s, t_par, kPa1_v, kPa2_v, par_d, t_ret, kRt_v, kRt_r, t_exp, kEx_v, kEx_r, t_ite, kIt_t, kIt_f, kIt_r, t_rse, t_brk, t_try, kTr_r, kTr_n, kTr_t, t_for, kF1_v, kF1_r, kF2_s, fl_nil, fl_cons, kFL_n, kFL_t, kFL_r, kFL_b, s_for, kSF_s, List.getElem?_cons_zero, List.getElem?_cons_succ, List.set_cons_zero, List.set_cons_succ, List.length_cons, List.length_nil, List.cons_append, List.nil_append, b_add, b_sub, b_mul, b_fdiv, b_mod, c_lt, c_le, c_gt, c_ge, c_eq, c_ne, c_eqi, c_nei, l_tup, l_list, l_abs, sq_t, sq_l, i_t1_0, i_l1_0, i_t2_0, i_l2_0, i_t2_1, i_l2_1, i_t3_0, i_l3_0, i_t3_1, i_l3_1, i_t3_2, i_l3_2, i_t4_0, i_l4_0, i_t4_1, i_l4_1, i_t4_2, i_l4_2, i_t4_3, i_l4_3, i_t5_0, i_l5_0, i_t5_1, i_l5_1, i_t5_2, i_l5_2, i_t5_3, i_l5_3, i_t5_4, i_l5_4, i_t6_0, i_l6_0, i_t6_1, i_l6_1, i_t6_2, i_l6_2, i_t6_3, i_l6_3, i_t6_4, i_l6_4, i_t6_5, i_l6_5, bt_nm, wp_nil, wp_cons, List.replicate, Nat.reduceSub, List.append_nil, Int.reduceLT, Int.reduceLE, Int.reduceBEq, Int.reduceSub, decide_true, decide_false, Bool.not_true, Bool.not_false, Bool.not_not, e_rz, e_rz1, e_ok, e_nx, isc_e, ln0, ln1, ln2, ln3, ln4, lt2, lt4, if_true, if_false, reduceIte, Bool.false_eq_true, bt_nil_t, bt_cons_t, bt_nil_l, bt_cons_l, Option.bind, e_okC, t_asgM, kM1_l, kM2_t, kM1_r, nr_nil, nr_d, nr_u, nr_r, bq_0, bq_0a, bl_1, bl_1z, bl_2, bl_2z, bl_21, bl_c1, bl_c1z, bl_c1y, bl_c1x, bl_c2, bl_c2z, bl_c21, g_1, g_2, g_21, s_1, s_2, s_21, t_apd2, kAp3_u, kAp4_t, kP1_v, kP1_r, kP2_l, kP3_v, kP3_r, e_ok1, e_nx1, e_ok2, e_rz2, e_ok1c, e_ok2c, kC2_u, kC3_t, e_dsel, kD1_v, kD2_v, e_mth, kMt1_v, kMt2_l, kMt3_v, kMt4_s, l_any4, l_all4, ist_s0, ist_i0, tr_bl, is_nn, is_bn, is_in, is_tn, is_ln, is_sn, nb0, nc0, nb1, nc1, nb2, nc2, nb3, nc3, nb4, nc4, nb5, nc5, nb6, nc6, nb7, nc7, nb8, nc8, nb9, nc9, nb10, nc10, nb11, nc11, nb12, nc12, nb13, nc13, nb14, nc14, nb15, nc15, nb16, nc16, nb17, nc17, nb18, nc18, nb19, nc19, nb20, nc20, nb21, nc21, nb22, nc22, nb23, nc23, nb24, nc24, nb25, nc25, nb26, nc26, nb27, nc27, nb28, nc28, nb29, nc29, nb30, nc30, nb31, nc31, nb32, nc32, nb33, nc33, nb34, nc34, nb35, nc35, nb36, nc36, nb37, nc37, nb38, nc38, nb39, nc39, nb40, nc40, r1_0, r1_1, r1_2, r1_3, r1_4, r1_5, r1_6, rgl_1, rgl_2, rgl_3, rgl_4, md_1, md_2, md_3, md_4, qt0, qt1, qt2, qt3, Int.reduceMul, Int.reduceNeg, Int.reduceAdd, Nat.add_zero, Nat.reduceAdd, Bool.true_and, Bool.and_true, Bool.false_and, Bool.and_false, Bool.or_false, Bool.false_or]
theorem to_ok1 {n : Nat} {S : Sto} {s1 s2 x : D} (h : callE LW Pr (n + 1) 12 [.d s1, .d s2] S = some (.ok x, S)) : callE LW Pr (n + 2) 22 [.d (.int 1), .d s1, .d s2, .d (.int 0), .d (.int 0)] S = some (.ok x, S) := by
  simp only [u__law_told, i__law_told, h, e_var, kV_d, kV_r, kVr_l, kVr_f, e_arg, kA_d, kA_r, e_lit, pk_d, pk_r, kPr_l, kPr_f, outD_s, outB_s, e_bin, kBin1_v, kBin1_r, kBin2_v, kBin2_r, kBin3_s, e_cmp, kCmp1_v, kCmp1_r, kCmp2_v, kCmp2_r, kCmp3_s, e_idx, kIdx1_v, kIdx1_r, kIdx2_v, kIdx2_r, kIdx3_s, e_neg, kNeg1_v, kNeg1_r, e_tru, kTru1_v, kTru1_r, kNeg2_s, kTru2_s, e_isc, kIsc1_v, kIsc1_r, kIsc2_s, e_and, kAnd_t, kAnd_f, kAnd_r, e_or, kOr_t, kOr_f, kOr_r, e_not, kNot_t, kNot_f, kNot_r, e_ifx, kIfx_t, kIfx_f, kIfx_r, e_chn, kCh1_v, kCh1_r, kCh2_v, kCh2_r, kChP_s, kChB_t, kChB_f, kCh3_v, kCh3_r, kCh4_s, e_nil, e_cons, kCs1_v, kCs1_r, kCs2_v, kCs2_r, e_tup, kTu1_v, kTu1_r, kTu2_0, kTu2_1, kTu2_2, kTu2_3, kTu2_4, kTu2_5, kTu2_6, kTu2_7, kTu2_8, e_lst, kLi1_v, kLi1_r, kLi2_0, kLi2_1, kLi2_2, kLi2_3, kLi2_4, kLi2_5, kLi2_6, kLi2_7, kLi2_8, datL, Option.map_some, e_call, kCa1_v, kCa1_r, kCa2_o, kCa2_r, e_blt, kBl1_v, kBl1_r, kBl2_s, pl_nil, pl_cons, kPL_s, e_rng1, kR1_v, e_rng2, kR2_v, kR2_r, kR2b_v, e_comp, kC1_v, kC1_r, cl_nil, cl_cons, kCL_y, kCL_n, s_step, kS1_s, kS2_t, kS2_f, kS3_v, t_seq, kSq_n, kSq_t, kSq_r, kSq_b, t_nop, t_asg, kAs1_v, kAs1_r, kAs2_s, t_par, kPa1_v, kPa2_v, par_d, t_ret, kRt_v, kRt_r, t_exp, kEx_v, kEx_r, t_ite, kIt_t, kIt_f, kIt_r, t_rse, t_brk, t_try, kTr_r, kTr_n, kTr_t, t_for, kF1_v, kF1_r, kF2_s, fl_nil, fl_cons, kFL_n, kFL_t, kFL_r, kFL_b, s_for, kSF_s, List.getElem?_cons_zero, List.getElem?_cons_succ, List.set_cons_zero, List.set_cons_succ, List.length_cons, List.length_nil, List.cons_append, List.nil_append, b_add, b_sub, b_mul, b_fdiv, b_mod, c_lt, c_le, c_gt, c_ge, c_eq, c_ne, c_eqi, c_nei, l_tup, l_list, l_abs, sq_t, sq_l, i_t1_0, i_l1_0, i_t2_0, i_l2_0, i_t2_1, i_l2_1, i_t3_0, i_l3_0, i_t3_1, i_l3_1, i_t3_2, i_l3_2, i_t4_0, i_l4_0, i_t4_1, i_l4_1, i_t4_2, i_l4_2, i_t4_3, i_l4_3, i_t5_0, i_l5_0, i_t5_1, i_l5_1, i_t5_2, i_l5_2, i_t5_3, i_l5_3, i_t5_4, i_l5_4, i_t6_0, i_l6_0, i_t6_1, i_l6_1, i_t6_2, i_l6_2, i_t6_3, i_l6_3, i_t6_4, i_l6_4, i_t6_5, i_l6_5, bt_nm, wp_nil, wp_cons, List.replicate, Nat.reduceSub, List.append_nil, Int.reduceLT, Int.reduceLE, Int.reduceBEq, Int.reduceSub, decide_true, decide_false, Bool.not_true, Bool.not_false, Bool.not_not, e_rz, e_rz1, e_ok, e_nx, isc_e, ln0, ln1, ln2, ln3, ln4, lt2, lt4, if_true, if_false, reduceIte, Bool.false_eq_true, bt_nil_t, bt_cons_t, bt_nil_l, bt_cons_l, Option.bind, e_okC, t_asgM, kM1_l, kM2_t, kM1_r, nr_nil, nr_d, nr_u, nr_r, bq_0, bq_0a, bl_1, bl_1z, bl_2, bl_2z, bl_21, bl_c1, bl_c1z, bl_c1y, bl_c1x, bl_c2, bl_c2z, bl_c21, g_1, g_2, g_21, s_1, s_2, s_21, t_apd2, kAp3_u, kAp4_t, kP1_v, kP1_r, kP2_l, kP3_v, kP3_r, e_ok1, e_nx1, e_ok2, e_rz2, e_ok1c, e_ok2c, kC2_u, kC3_t, e_dsel, kD1_v, kD2_v, e_mth, kMt1_v, kMt2_l, kMt3_v, kMt4_s, l_any4, l_all4, ist_s0, ist_i0, tr_bl, is_nn, is_bn, is_in, is_tn, is_ln, is_sn, nb0, nc0, nb1, nc1, nb2, nc2, nb3, nc3, nb4, nc4, nb5, nc5, nb6, nc6, nb7, nc7, nb8, nc8, nb9, nc9, nb10, nc10, nb11, nc11, nb12, nc12, nb13, nc13, nb14, nc14, nb15, nc15, nb16, nc16, nb17, nc17, nb18, nc18, nb19, nc19, nb20, nc20, nb21, nc21, nb22, nc22, nb23, nc23, nb24, nc24, nb25, nc25, nb26, nc26, nb27, nc27, nb28, nc28, nb29, nc29, nb30, nc30, nb31, nc31, nb32, nc32, nb33, nc33, nb34, nc34, nb35, nc35, nb36, nc36, nb37, nc37, nb38, nc38, nb39, nc39, nb40, nc40, r1_0, r1_1, r1_2, r1_3, r1_4, r1_5, r1_6, rgl_1, rgl_2, rgl_3, rgl_4, md_1, md_2, md_3, md_4, qt0, qt1, qt2, qt3, Int.reduceMul, Int.reduceNeg, Int.reduceAdd, Nat.add_zero, Nat.reduceAdd, Bool.true_and, Bool.and_true, Bool.false_and, Bool.and_false, Bool.or_false, Bool.false_or]
theorem to_ok2 {n : Nat} {S : Sto} {s1 s2 s3 s4 x : D} (h : callE LW Pr (n + 1) 13 [.d s1, .d s2, .d s3, .d s4] S = some (.ok x, S)) : callE LW Pr (n + 2) 22 [.d (.int 2), .d s1, .d s2, .d s3, .d s4] S = some (.ok x, S) := by
  simp only [u__law_told, i__law_told, h, e_var, kV_d, kV_r, kVr_l, kVr_f, e_arg, kA_d, kA_r, e_lit, pk_d, pk_r, kPr_l, kPr_f, outD_s, outB_s, e_bin, kBin1_v, kBin1_r, kBin2_v, kBin2_r, kBin3_s, e_cmp, kCmp1_v, kCmp1_r, kCmp2_v, kCmp2_r, kCmp3_s, e_idx, kIdx1_v, kIdx1_r, kIdx2_v, kIdx2_r, kIdx3_s, e_neg, kNeg1_v, kNeg1_r, e_tru, kTru1_v, kTru1_r, kNeg2_s, kTru2_s, e_isc, kIsc1_v, kIsc1_r, kIsc2_s, e_and, kAnd_t, kAnd_f, kAnd_r, e_or, kOr_t, kOr_f, kOr_r, e_not, kNot_t, kNot_f, kNot_r, e_ifx, kIfx_t, kIfx_f, kIfx_r, e_chn, kCh1_v, kCh1_r, kCh2_v, kCh2_r, kChP_s, kChB_t, kChB_f, kCh3_v, kCh3_r, kCh4_s, e_nil, e_cons, kCs1_v, kCs1_r, kCs2_v, kCs2_r, e_tup, kTu1_v, kTu1_r, kTu2_0, kTu2_1, kTu2_2, kTu2_3, kTu2_4, kTu2_5, kTu2_6, kTu2_7, kTu2_8, e_lst, kLi1_v, kLi1_r, kLi2_0, kLi2_1, kLi2_2, kLi2_3, kLi2_4, kLi2_5, kLi2_6, kLi2_7, kLi2_8, datL, Option.map_some, e_call, kCa1_v, kCa1_r, kCa2_o, kCa2_r, e_blt, kBl1_v, kBl1_r, kBl2_s, pl_nil, pl_cons, kPL_s, e_rng1, kR1_v, e_rng2, kR2_v, kR2_r, kR2b_v, e_comp, kC1_v, kC1_r, cl_nil, cl_cons, kCL_y, kCL_n, s_step, kS1_s, kS2_t, kS2_f, kS3_v, t_seq, kSq_n, kSq_t, kSq_r, kSq_b, t_nop, t_asg, kAs1_v, kAs1_r, kAs2_s, t_par, kPa1_v, kPa2_v, par_d, t_ret, kRt_v, kRt_r, t_exp, kEx_v, kEx_r, t_ite, kIt_t, kIt_f, kIt_r, t_rse, t_brk, t_try, kTr_r, kTr_n, kTr_t, t_for, kF1_v, kF1_r, kF2_s, fl_nil, fl_cons, kFL_n, kFL_t, kFL_r, kFL_b, s_for, kSF_s, List.getElem?_cons_zero, List.getElem?_cons_succ, List.set_cons_zero, List.set_cons_succ, List.length_cons, List.length_nil, List.cons_append, List.nil_append, b_add, b_sub, b_mul, b_fdiv, b_mod, c_lt, c_le, c_gt, c_ge, c_eq, c_ne, c_eqi, c_nei, l_tup, l_list, l_abs, sq_t, sq_l, i_t1_0, i_l1_0, i_t2_0, i_l2_0, i_t2_1, i_l2_1, i_t3_0, i_l3_0, i_t3_1, i_l3_1, i_t3_2, i_l3_2, i_t4_0, i_l4_0, i_t4_1, i_l4_1, i_t4_2, i_l4_2, i_t4_3, i_l4_3, i_t5_0, i_l5_0, i_t5_1, i_l5_1, i_t5_2, i_l5_2, i_t5_3, i_l5_3, i_t5_4, i_l5_4, i_t6_0, i_l6_0, i_t6_1, i_l6_1, i_t6_2, i_l6_2, i_t6_3, i_l6_3, i_t6_4, i_l6_4, i_t6_5, i_l6_5, bt_nm, wp_nil, wp_cons, List.replicate, Nat.reduceSub, List.append_nil, Int.reduceLT, Int.reduceLE, Int.reduceBEq, Int.reduceSub, decide_true, decide_false, Bool.not_true, Bool.not_false, Bool.not_not, e_rz, e_rz1, e_ok, e_nx, isc_e, ln0, ln1, ln2, ln3, ln4, lt2, lt4, if_true, if_false, reduceIte, Bool.false_eq_true, bt_nil_t, bt_cons_t, bt_nil_l, bt_cons_l, Option.bind, e_okC, t_asgM, kM1_l, kM2_t, kM1_r, nr_nil, nr_d, nr_u, nr_r, bq_0, bq_0a, bl_1, bl_1z, bl_2, bl_2z, bl_21, bl_c1, bl_c1z, bl_c1y, bl_c1x, bl_c2, bl_c2z, bl_c21, g_1, g_2, g_21, s_1, s_2, s_21, t_apd2, kAp3_u, kAp4_t, kP1_v, kP1_r, kP2_l, kP3_v, kP3_r, e_ok1, e_nx1, e_ok2, e_rz2, e_ok1c, e_ok2c, kC2_u, kC3_t, e_dsel, kD1_v, kD2_v, e_mth, kMt1_v, kMt2_l, kMt3_v, kMt4_s, l_any4, l_all4, ist_s0, ist_i0, tr_bl, is_nn, is_bn, is_in, is_tn, is_ln, is_sn, nb0, nc0, nb1, nc1, nb2, nc2, nb3, nc3, nb4, nc4, nb5, nc5, nb6, nc6, nb7, nc7, nb8, nc8, nb9, nc9, nb10, nc10, nb11, nc11, nb12, nc12, nb13, nc13, nb14, nc14, nb15, nc15, nb16, nc16, nb17, nc17, nb18, nc18, nb19, nc19, nb20, nc20, nb21, nc21, nb22, nc22, nb23, nc23, nb24, nc24, nb25, nc25, nb26, nc26, nb27, nc27, nb28, nc28, nb29, nc29, nb30, nc30, nb31, nc31, nb32, nc32, nb33, nc33, nb34, nc34, nb35, nc35, nb36, nc36, nb37, nc37, nb38, nc38, nb39, nc39, nb40, nc40, r1_0, r1_1, r1_2, r1_3, r1_4, r1_5, r1_6, rgl_1, rgl_2, rgl_3, rgl_4, md_1, md_2, md_3, md_4, qt0, qt1, qt2, qt3, Int.reduceMul, Int.reduceNeg, Int.reduceAdd, Nat.add_zero, Nat.reduceAdd, Bool.true_and, Bool.and_true, Bool.false_and, Bool.and_false, Bool.or_false, Bool.false_or]
theorem to_rz2 {n : Nat} {S : Sto} {s1 s2 s3 s4 : D} (h : callE LW Pr (n + 1) 13 [.d s1, .d s2, .d s3, .d s4] S = some (.rz 6, S)) : callE LW Pr (n + 2) 22 [.d (.int 2), .d s1, .d s2, .d s3, .d s4] S = some (.ok (.tup [.str "refused", .str "number"]), S) := by
  have r := v_ref6 (n := n) (S := S)
  simp only [u__law_told, i__law_told, h, r, e_var, kV_d, kV_r, kVr_l, kVr_f, e_arg, kA_d, kA_r, e_lit, pk_d, pk_r, kPr_l, kPr_f, outD_s, outB_s, e_bin, kBin1_v, kBin1_r, kBin2_v, kBin2_r, kBin3_s, e_cmp, kCmp1_v, kCmp1_r, kCmp2_v, kCmp2_r, kCmp3_s, e_idx, kIdx1_v, kIdx1_r, kIdx2_v, kIdx2_r, kIdx3_s, e_neg, kNeg1_v, kNeg1_r, e_tru, kTru1_v, kTru1_r, kNeg2_s, kTru2_s, e_isc, kIsc1_v, kIsc1_r, kIsc2_s, e_and, kAnd_t, kAnd_f, kAnd_r, e_or, kOr_t, kOr_f, kOr_r, e_not, kNot_t, kNot_f, kNot_r, e_ifx, kIfx_t, kIfx_f, kIfx_r, e_chn, kCh1_v, kCh1_r, kCh2_v, kCh2_r, kChP_s, kChB_t, kChB_f, kCh3_v, kCh3_r, kCh4_s, e_nil, e_cons, kCs1_v, kCs1_r, kCs2_v, kCs2_r, e_tup, kTu1_v, kTu1_r, kTu2_0, kTu2_1, kTu2_2, kTu2_3, kTu2_4, kTu2_5, kTu2_6, kTu2_7, kTu2_8, e_lst, kLi1_v, kLi1_r, kLi2_0, kLi2_1, kLi2_2, kLi2_3, kLi2_4, kLi2_5, kLi2_6, kLi2_7, kLi2_8, datL, Option.map_some, e_call, kCa1_v, kCa1_r, kCa2_o, kCa2_r, e_blt, kBl1_v, kBl1_r, kBl2_s, pl_nil, pl_cons, kPL_s, e_rng1, kR1_v, e_rng2, kR2_v, kR2_r, kR2b_v, e_comp, kC1_v, kC1_r, cl_nil, cl_cons, kCL_y, kCL_n, s_step, kS1_s, kS2_t, kS2_f, kS3_v, t_seq, kSq_n, kSq_t, kSq_r, kSq_b, t_nop, t_asg, kAs1_v, kAs1_r, kAs2_s, t_par, kPa1_v, kPa2_v, par_d, t_ret, kRt_v, kRt_r, t_exp, kEx_v, kEx_r, t_ite, kIt_t, kIt_f, kIt_r, t_rse, t_brk, t_try, kTr_r, kTr_n, kTr_t, t_for, kF1_v, kF1_r, kF2_s, fl_nil, fl_cons, kFL_n, kFL_t, kFL_r, kFL_b, s_for, kSF_s, List.getElem?_cons_zero, List.getElem?_cons_succ, List.set_cons_zero, List.set_cons_succ, List.length_cons, List.length_nil, List.cons_append, List.nil_append, b_add, b_sub, b_mul, b_fdiv, b_mod, c_lt, c_le, c_gt, c_ge, c_eq, c_ne, c_eqi, c_nei, l_tup, l_list, l_abs, sq_t, sq_l, i_t1_0, i_l1_0, i_t2_0, i_l2_0, i_t2_1, i_l2_1, i_t3_0, i_l3_0, i_t3_1, i_l3_1, i_t3_2, i_l3_2, i_t4_0, i_l4_0, i_t4_1, i_l4_1, i_t4_2, i_l4_2, i_t4_3, i_l4_3, i_t5_0, i_l5_0, i_t5_1, i_l5_1, i_t5_2, i_l5_2, i_t5_3, i_l5_3, i_t5_4, i_l5_4, i_t6_0, i_l6_0, i_t6_1, i_l6_1, i_t6_2, i_l6_2, i_t6_3, i_l6_3, i_t6_4, i_l6_4, i_t6_5, i_l6_5, bt_nm, wp_nil, wp_cons, List.replicate, Nat.reduceSub, List.append_nil, Int.reduceLT, Int.reduceLE, Int.reduceBEq, Int.reduceSub, decide_true, decide_false, Bool.not_true, Bool.not_false, Bool.not_not, e_rz, e_rz1, e_ok, e_nx, isc_e, ln0, ln1, ln2, ln3, ln4, lt2, lt4, if_true, if_false, reduceIte, Bool.false_eq_true, bt_nil_t, bt_cons_t, bt_nil_l, bt_cons_l, Option.bind, e_okC, t_asgM, kM1_l, kM2_t, kM1_r, nr_nil, nr_d, nr_u, nr_r, bq_0, bq_0a, bl_1, bl_1z, bl_2, bl_2z, bl_21, bl_c1, bl_c1z, bl_c1y, bl_c1x, bl_c2, bl_c2z, bl_c21, g_1, g_2, g_21, s_1, s_2, s_21, t_apd2, kAp3_u, kAp4_t, kP1_v, kP1_r, kP2_l, kP3_v, kP3_r, e_ok1, e_nx1, e_ok2, e_rz2, e_ok1c, e_ok2c, kC2_u, kC3_t, e_dsel, kD1_v, kD2_v, e_mth, kMt1_v, kMt2_l, kMt3_v, kMt4_s, l_any4, l_all4, ist_s0, ist_i0, tr_bl, is_nn, is_bn, is_in, is_tn, is_ln, is_sn, nb0, nc0, nb1, nc1, nb2, nc2, nb3, nc3, nb4, nc4, nb5, nc5, nb6, nc6, nb7, nc7, nb8, nc8, nb9, nc9, nb10, nc10, nb11, nc11, nb12, nc12, nb13, nc13, nb14, nc14, nb15, nc15, nb16, nc16, nb17, nc17, nb18, nc18, nb19, nc19, nb20, nc20, nb21, nc21, nb22, nc22, nb23, nc23, nb24, nc24, nb25, nc25, nb26, nc26, nb27, nc27, nb28, nc28, nb29, nc29, nb30, nc30, nb31, nc31, nb32, nc32, nb33, nc33, nb34, nc34, nb35, nc35, nb36, nc36, nb37, nc37, nb38, nc38, nb39, nc39, nb40, nc40, r1_0, r1_1, r1_2, r1_3, r1_4, r1_5, r1_6, rgl_1, rgl_2, rgl_3, rgl_4, md_1, md_2, md_3, md_4, qt0, qt1, qt2, qt3, Int.reduceMul, Int.reduceNeg, Int.reduceAdd, Nat.add_zero, Nat.reduceAdd, Bool.true_and, Bool.and_true, Bool.false_and, Bool.and_false, Bool.or_false, Bool.false_or]

section
variable {a b p : Q} (ha : okS 7 a) (hb : okS 7 b) (hp : okS 7 p)
include ha hb hp
theorem tm_it (s : Nat) : tm (tm (itQ a b p s) a) b = itQ a b p (s + 1) := by
  have o := it_ok ha hb hp s
  have m1 := mir_pos o.pr ha.pr
  obtain ⟨k, hk, e⟩ := tdQ_ex m1
  show tdQ ((tdQ ((itQ a b p s).mir a)).mir b) = tdQ (((itQ a b p s).mir a).mir b)
  conv => rhs; rw [e, mir_mul]
  exact (tdQ_scale hk (mir_pos (tdQ_pos m1) hb.pr)).symm
theorem lc_loop {n w : Nat} {S : Sto} {s0 s1 s3 s4 s7 : Sl} : ∀ (j s : Nat) (s10 : Sl), s + j ≤ 30 → ∃ s10', forL (stepF LW (callE LW Pr (n + 3)) w (.nm 10) lcB) (loL s j) [s0, s1, .d p.t, s3, s4, .d a.t, .d b.t, s7, .d (dv a b p s), .d (itQ a b p s).t, s10] S = some (.nx, [s0, s1, .d p.t, s3, s4, .d a.t, .d b.t, s7, .d (dv a b p (s + j)), .d (itQ a b p (s + j)).t, s10'], S)
  | 0, s, s10, _ => ⟨s10, rfl⟩
  | j + 1, s, s10, hj => by
    have o := it_ok ha hb hp s
    obtain ⟨l1, l2⟩ := it_bd ha hb hp (k := s) (by omega)
    have o2 := tm_ok o ha
    have z : 882 * (7 * 777924 ^ s) ≤ 882 * (7 * 777924 ^ 30) := Nat.mul_le_mul_left _ (Nat.mul_le_mul_left _ (Nat.pow_le_pow_right (by decide) (by omega)))
    have z2 : 882 * (7 * 777924 ^ 30) < 2 ^ 620 := by decide +kernel
    have b2 := o2.le.bd (Nat.lt_of_le_of_lt z z2)
    have m1 := v_lm (n := n + 1) (S := S) (l1.mono (by decide)) o.pr ha
    have m2 := v_lm (n := n + 1) (S := S) b2 o2.pr hb
    rw [tm_it ha hb hp s] at m2
    have ce := c_eq (plnQ (p := itQ a b p (s + 1))) (plnQ (p := p))
    have hs : (s : Int) + 1 = ((s + 1 : Nat) : Int) := by omega
    obtain ⟨s10', ih⟩ := lc_loop j (s + 1) (.d (.int (s : Int))) (by omega)
    refine ⟨s10', ?_⟩
    rw [show s + (j + 1) = s + 1 + j by omega, ← ih]
    show forL _ (.int (s : Int) :: loL (s + 1) j) _ S = _
    rw [fl_cons]
    have st : stepF LW (callE LW Pr (n + 3)) w (.nm 10) lcB (.int (s : Int)) [s0, s1, .d p.t, s3, s4, .d a.t, .d b.t, s7, .d (dv a b p s), .d (itQ a b p s).t, s10] S = some (.nx, [s0, s1, .d p.t, s3, s4, .d a.t, .d b.t, s7, .d (dv a b p (s + 1)), .d (itQ a b p (s + 1)).t, .d (.int (s : Int))], S) := by
      rcases dv_is (a := a) (b := b) (p := p) s with h | ⟨z, -, -, h, -⟩
      · have dn := dv_none h
        cases hd : deq (itQ a b p (s + 1)).t p.t with
        | true =>
          rw [hd, if_pos rfl, ← hs] at dn
          rw [h, dn]
          simp only [lcB, m1, m2, ce, hd, e_var, kV_d, kV_r, kVr_l, kVr_f, e_arg, kA_d, kA_r, e_lit, pk_d, pk_r, kPr_l, kPr_f, outD_s, outB_s, e_bin, kBin1_v, kBin1_r, kBin2_v, kBin2_r, kBin3_s, e_cmp, kCmp1_v, kCmp1_r, kCmp2_v, kCmp2_r, kCmp3_s, e_idx, kIdx1_v, kIdx1_r, kIdx2_v, kIdx2_r, kIdx3_s, e_neg, kNeg1_v, kNeg1_r, e_tru, kTru1_v, kTru1_r, kNeg2_s, kTru2_s, e_isc, kIsc1_v, kIsc1_r, kIsc2_s, e_and, kAnd_t, kAnd_f, kAnd_r, e_or, kOr_t, kOr_f, kOr_r, e_not, kNot_t, kNot_f, kNot_r, e_ifx, kIfx_t, kIfx_f, kIfx_r, e_chn, kCh1_v, kCh1_r, kCh2_v, kCh2_r, kChP_s, kChB_t, kChB_f, kCh3_v, kCh3_r, kCh4_s, e_nil, e_cons, kCs1_v, kCs1_r, kCs2_v, kCs2_r, e_tup, kTu1_v, kTu1_r, kTu2_0, kTu2_1, kTu2_2, kTu2_3, kTu2_4, kTu2_5, kTu2_6, kTu2_7, kTu2_8, e_lst, kLi1_v, kLi1_r, kLi2_0, kLi2_1, kLi2_2, kLi2_3, kLi2_4, kLi2_5, kLi2_6, kLi2_7, kLi2_8, datL, Option.map_some, e_call, kCa1_v, kCa1_r, kCa2_o, kCa2_r, e_blt, kBl1_v, kBl1_r, kBl2_s, pl_nil, pl_cons, kPL_s, e_rng1, kR1_v, e_rng2, kR2_v, kR2_r, kR2b_v, e_comp, kC1_v, kC1_r, cl_nil, cl_cons, kCL_y, kCL_n, s_step, kS1_s, kS2_t, kS2_f, kS3_v, t_seq, kSq_n, kSq_t, kSq_r, kSq_b, t_nop, t_asg, kAs1_v, kAs1_r, kAs2_s, t_par, kPa1_v, kPa2_v, par_d, t_ret, kRt_v, kRt_r, t_exp, kEx_v, kEx_r, t_ite, kIt_t, kIt_f, kIt_r, t_rse, t_brk, t_try, kTr_r, kTr_n, kTr_t, t_for, kF1_v, kF1_r, kF2_s, fl_nil, fl_cons, kFL_n, kFL_t, kFL_r, kFL_b, s_for, kSF_s, List.getElem?_cons_zero, List.getElem?_cons_succ, List.set_cons_zero, List.set_cons_succ, List.length_cons, List.length_nil, List.cons_append, List.nil_append, b_add, b_sub, b_mul, b_fdiv, b_mod, c_lt, c_le, c_gt, c_ge, c_eq, c_ne, c_eqi, c_nei, l_tup, l_list, l_abs, sq_t, sq_l, i_t1_0, i_l1_0, i_t2_0, i_l2_0, i_t2_1, i_l2_1, i_t3_0, i_l3_0, i_t3_1, i_l3_1, i_t3_2, i_l3_2, i_t4_0, i_l4_0, i_t4_1, i_l4_1, i_t4_2, i_l4_2, i_t4_3, i_l4_3, i_t5_0, i_l5_0, i_t5_1, i_l5_1, i_t5_2, i_l5_2, i_t5_3, i_l5_3, i_t5_4, i_l5_4, i_t6_0, i_l6_0, i_t6_1, i_l6_1, i_t6_2, i_l6_2, i_t6_3, i_l6_3, i_t6_4, i_l6_4, i_t6_5, i_l6_5, bt_nm, wp_nil, wp_cons, List.replicate, Nat.reduceSub, List.append_nil, Int.reduceLT, Int.reduceLE, Int.reduceBEq, Int.reduceSub, decide_true, decide_false, Bool.not_true, Bool.not_false, Bool.not_not, e_rz, e_rz1, e_ok, e_nx, isc_e, ln0, ln1, ln2, ln3, ln4, lt2, lt4, if_true, if_false, reduceIte, Bool.false_eq_true, bt_nil_t, bt_cons_t, bt_nil_l, bt_cons_l, Option.bind, e_okC, t_asgM, kM1_l, kM2_t, kM1_r, nr_nil, nr_d, nr_u, nr_r, bq_0, bq_0a, bl_1, bl_1z, bl_2, bl_2z, bl_21, bl_c1, bl_c1z, bl_c1y, bl_c1x, bl_c2, bl_c2z, bl_c21, g_1, g_2, g_21, s_1, s_2, s_21, t_apd2, kAp3_u, kAp4_t, kP1_v, kP1_r, kP2_l, kP3_v, kP3_r, e_ok1, e_nx1, e_ok2, e_rz2, e_ok1c, e_ok2c, kC2_u, kC3_t, e_dsel, kD1_v, kD2_v, e_mth, kMt1_v, kMt2_l, kMt3_v, kMt4_s, l_any4, l_all4, ist_s0, ist_i0, tr_bl, is_nn, is_bn, is_in, is_tn, is_ln, is_sn, nb0, nc0, nb1, nc1, nb2, nc2, nb3, nc3, nb4, nc4, nb5, nc5, nb6, nc6, nb7, nc7, nb8, nc8, nb9, nc9, nb10, nc10, nb11, nc11, nb12, nc12, nb13, nc13, nb14, nc14, nb15, nc15, nb16, nc16, nb17, nc17, nb18, nc18, nb19, nc19, nb20, nc20, nb21, nc21, nb22, nc22, nb23, nc23, nb24, nc24, nb25, nc25, nb26, nc26, nb27, nc27, nb28, nc28, nb29, nc29, nb30, nc30, nb31, nc31, nb32, nc32, nb33, nc33, nb34, nc34, nb35, nc35, nb36, nc36, nb37, nc37, nb38, nc38, nb39, nc39, nb40, nc40, r1_0, r1_1, r1_2, r1_3, r1_4, r1_5, r1_6, rgl_1, rgl_2, rgl_3, rgl_4, md_1, md_2, md_3, md_4, qt0, qt1, qt2, qt3, Int.reduceMul, Int.reduceNeg, Int.reduceAdd, Nat.add_zero, Nat.reduceAdd, Bool.true_and, Bool.and_true, Bool.false_and, Bool.and_false, Bool.or_false, Bool.false_or]
        | false =>
          rw [hd, if_neg (by decide)] at dn
          rw [h, dn]
          simp only [lcB, m1, m2, ce, hd, e_var, kV_d, kV_r, kVr_l, kVr_f, e_arg, kA_d, kA_r, e_lit, pk_d, pk_r, kPr_l, kPr_f, outD_s, outB_s, e_bin, kBin1_v, kBin1_r, kBin2_v, kBin2_r, kBin3_s, e_cmp, kCmp1_v, kCmp1_r, kCmp2_v, kCmp2_r, kCmp3_s, e_idx, kIdx1_v, kIdx1_r, kIdx2_v, kIdx2_r, kIdx3_s, e_neg, kNeg1_v, kNeg1_r, e_tru, kTru1_v, kTru1_r, kNeg2_s, kTru2_s, e_isc, kIsc1_v, kIsc1_r, kIsc2_s, e_and, kAnd_t, kAnd_f, kAnd_r, e_or, kOr_t, kOr_f, kOr_r, e_not, kNot_t, kNot_f, kNot_r, e_ifx, kIfx_t, kIfx_f, kIfx_r, e_chn, kCh1_v, kCh1_r, kCh2_v, kCh2_r, kChP_s, kChB_t, kChB_f, kCh3_v, kCh3_r, kCh4_s, e_nil, e_cons, kCs1_v, kCs1_r, kCs2_v, kCs2_r, e_tup, kTu1_v, kTu1_r, kTu2_0, kTu2_1, kTu2_2, kTu2_3, kTu2_4, kTu2_5, kTu2_6, kTu2_7, kTu2_8, e_lst, kLi1_v, kLi1_r, kLi2_0, kLi2_1, kLi2_2, kLi2_3, kLi2_4, kLi2_5, kLi2_6, kLi2_7, kLi2_8, datL, Option.map_some, e_call, kCa1_v, kCa1_r, kCa2_o, kCa2_r, e_blt, kBl1_v, kBl1_r, kBl2_s, pl_nil, pl_cons, kPL_s, e_rng1, kR1_v, e_rng2, kR2_v, kR2_r, kR2b_v, e_comp, kC1_v, kC1_r, cl_nil, cl_cons, kCL_y, kCL_n, s_step, kS1_s, kS2_t, kS2_f, kS3_v, t_seq, kSq_n, kSq_t, kSq_r, kSq_b, t_nop, t_asg, kAs1_v, kAs1_r, kAs2_s, t_par, kPa1_v, kPa2_v, par_d, t_ret, kRt_v, kRt_r, t_exp, kEx_v, kEx_r, t_ite, kIt_t, kIt_f, kIt_r, t_rse, t_brk, t_try, kTr_r, kTr_n, kTr_t, t_for, kF1_v, kF1_r, kF2_s, fl_nil, fl_cons, kFL_n, kFL_t, kFL_r, kFL_b, s_for, kSF_s, List.getElem?_cons_zero, List.getElem?_cons_succ, List.set_cons_zero, List.set_cons_succ, List.length_cons, List.length_nil, List.cons_append, List.nil_append, b_add, b_sub, b_mul, b_fdiv, b_mod, c_lt, c_le, c_gt, c_ge, c_eq, c_ne, c_eqi, c_nei, l_tup, l_list, l_abs, sq_t, sq_l, i_t1_0, i_l1_0, i_t2_0, i_l2_0, i_t2_1, i_l2_1, i_t3_0, i_l3_0, i_t3_1, i_l3_1, i_t3_2, i_l3_2, i_t4_0, i_l4_0, i_t4_1, i_l4_1, i_t4_2, i_l4_2, i_t4_3, i_l4_3, i_t5_0, i_l5_0, i_t5_1, i_l5_1, i_t5_2, i_l5_2, i_t5_3, i_l5_3, i_t5_4, i_l5_4, i_t6_0, i_l6_0, i_t6_1, i_l6_1, i_t6_2, i_l6_2, i_t6_3, i_l6_3, i_t6_4, i_l6_4, i_t6_5, i_l6_5, bt_nm, wp_nil, wp_cons, List.replicate, Nat.reduceSub, List.append_nil, Int.reduceLT, Int.reduceLE, Int.reduceBEq, Int.reduceSub, decide_true, decide_false, Bool.not_true, Bool.not_false, Bool.not_not, e_rz, e_rz1, e_ok, e_nx, isc_e, ln0, ln1, ln2, ln3, ln4, lt2, lt4, if_true, if_false, reduceIte, Bool.false_eq_true, bt_nil_t, bt_cons_t, bt_nil_l, bt_cons_l, Option.bind, e_okC, t_asgM, kM1_l, kM2_t, kM1_r, nr_nil, nr_d, nr_u, nr_r, bq_0, bq_0a, bl_1, bl_1z, bl_2, bl_2z, bl_21, bl_c1, bl_c1z, bl_c1y, bl_c1x, bl_c2, bl_c2z, bl_c21, g_1, g_2, g_21, s_1, s_2, s_21, t_apd2, kAp3_u, kAp4_t, kP1_v, kP1_r, kP2_l, kP3_v, kP3_r, e_ok1, e_nx1, e_ok2, e_rz2, e_ok1c, e_ok2c, kC2_u, kC3_t, e_dsel, kD1_v, kD2_v, e_mth, kMt1_v, kMt2_l, kMt3_v, kMt4_s, l_any4, l_all4, ist_s0, ist_i0, tr_bl, is_nn, is_bn, is_in, is_tn, is_ln, is_sn, nb0, nc0, nb1, nc1, nb2, nc2, nb3, nc3, nb4, nc4, nb5, nc5, nb6, nc6, nb7, nc7, nb8, nc8, nb9, nc9, nb10, nc10, nb11, nc11, nb12, nc12, nb13, nc13, nb14, nc14, nb15, nc15, nb16, nc16, nb17, nc17, nb18, nc18, nb19, nc19, nb20, nc20, nb21, nc21, nb22, nc22, nb23, nc23, nb24, nc24, nb25, nc25, nb26, nc26, nb27, nc27, nb28, nc28, nb29, nc29, nb30, nc30, nb31, nc31, nb32, nc32, nb33, nc33, nb34, nc34, nb35, nc35, nb36, nc36, nb37, nc37, nb38, nc38, nb39, nc39, nb40, nc40, r1_0, r1_1, r1_2, r1_3, r1_4, r1_5, r1_6, rgl_1, rgl_2, rgl_3, rgl_4, md_1, md_2, md_3, md_4, qt0, qt1, qt2, qt3, Int.reduceMul, Int.reduceNeg, Int.reduceAdd, Nat.add_zero, Nat.reduceAdd, Bool.true_and, Bool.and_true, Bool.false_and, Bool.and_false, Bool.or_false, Bool.false_or]
      · have dn := dv_some h
        rw [h, dn]
        simp only [lcB, m1, m2, ce, e_var, kV_d, kV_r, kVr_l, kVr_f, e_arg, kA_d, kA_r, e_lit, pk_d, pk_r, kPr_l, kPr_f, outD_s, outB_s, e_bin, kBin1_v, kBin1_r, kBin2_v, kBin2_r, kBin3_s, e_cmp, kCmp1_v, kCmp1_r, kCmp2_v, kCmp2_r, kCmp3_s, e_idx, kIdx1_v, kIdx1_r, kIdx2_v, kIdx2_r, kIdx3_s, e_neg, kNeg1_v, kNeg1_r, e_tru, kTru1_v, kTru1_r, kNeg2_s, kTru2_s, e_isc, kIsc1_v, kIsc1_r, kIsc2_s, e_and, kAnd_t, kAnd_f, kAnd_r, e_or, kOr_t, kOr_f, kOr_r, e_not, kNot_t, kNot_f, kNot_r, e_ifx, kIfx_t, kIfx_f, kIfx_r, e_chn, kCh1_v, kCh1_r, kCh2_v, kCh2_r, kChP_s, kChB_t, kChB_f, kCh3_v, kCh3_r, kCh4_s, e_nil, e_cons, kCs1_v, kCs1_r, kCs2_v, kCs2_r, e_tup, kTu1_v, kTu1_r, kTu2_0, kTu2_1, kTu2_2, kTu2_3, kTu2_4, kTu2_5, kTu2_6, kTu2_7, kTu2_8, e_lst, kLi1_v, kLi1_r, kLi2_0, kLi2_1, kLi2_2, kLi2_3, kLi2_4, kLi2_5, kLi2_6, kLi2_7, kLi2_8, datL, Option.map_some, e_call, kCa1_v, kCa1_r, kCa2_o, kCa2_r, e_blt, kBl1_v, kBl1_r, kBl2_s, pl_nil, pl_cons, kPL_s, e_rng1, kR1_v, e_rng2, kR2_v, kR2_r, kR2b_v, e_comp, kC1_v, kC1_r, cl_nil, cl_cons, kCL_y, kCL_n, s_step, kS1_s, kS2_t, kS2_f, kS3_v, t_seq, kSq_n, kSq_t, kSq_r, kSq_b, t_nop, t_asg, kAs1_v, kAs1_r, kAs2_s, t_par, kPa1_v, kPa2_v, par_d, t_ret, kRt_v, kRt_r, t_exp, kEx_v, kEx_r, t_ite, kIt_t, kIt_f, kIt_r, t_rse, t_brk, t_try, kTr_r, kTr_n, kTr_t, t_for, kF1_v, kF1_r, kF2_s, fl_nil, fl_cons, kFL_n, kFL_t, kFL_r, kFL_b, s_for, kSF_s, List.getElem?_cons_zero, List.getElem?_cons_succ, List.set_cons_zero, List.set_cons_succ, List.length_cons, List.length_nil, List.cons_append, List.nil_append, b_add, b_sub, b_mul, b_fdiv, b_mod, c_lt, c_le, c_gt, c_ge, c_eq, c_ne, c_eqi, c_nei, l_tup, l_list, l_abs, sq_t, sq_l, i_t1_0, i_l1_0, i_t2_0, i_l2_0, i_t2_1, i_l2_1, i_t3_0, i_l3_0, i_t3_1, i_l3_1, i_t3_2, i_l3_2, i_t4_0, i_l4_0, i_t4_1, i_l4_1, i_t4_2, i_l4_2, i_t4_3, i_l4_3, i_t5_0, i_l5_0, i_t5_1, i_l5_1, i_t5_2, i_l5_2, i_t5_3, i_l5_3, i_t5_4, i_l5_4, i_t6_0, i_l6_0, i_t6_1, i_l6_1, i_t6_2, i_l6_2, i_t6_3, i_l6_3, i_t6_4, i_l6_4, i_t6_5, i_l6_5, bt_nm, wp_nil, wp_cons, List.replicate, Nat.reduceSub, List.append_nil, Int.reduceLT, Int.reduceLE, Int.reduceBEq, Int.reduceSub, decide_true, decide_false, Bool.not_true, Bool.not_false, Bool.not_not, e_rz, e_rz1, e_ok, e_nx, isc_e, ln0, ln1, ln2, ln3, ln4, lt2, lt4, if_true, if_false, reduceIte, Bool.false_eq_true, bt_nil_t, bt_cons_t, bt_nil_l, bt_cons_l, Option.bind, e_okC, t_asgM, kM1_l, kM2_t, kM1_r, nr_nil, nr_d, nr_u, nr_r, bq_0, bq_0a, bl_1, bl_1z, bl_2, bl_2z, bl_21, bl_c1, bl_c1z, bl_c1y, bl_c1x, bl_c2, bl_c2z, bl_c21, g_1, g_2, g_21, s_1, s_2, s_21, t_apd2, kAp3_u, kAp4_t, kP1_v, kP1_r, kP2_l, kP3_v, kP3_r, e_ok1, e_nx1, e_ok2, e_rz2, e_ok1c, e_ok2c, kC2_u, kC3_t, e_dsel, kD1_v, kD2_v, e_mth, kMt1_v, kMt2_l, kMt3_v, kMt4_s, l_any4, l_all4, ist_s0, ist_i0, tr_bl, is_nn, is_bn, is_in, is_tn, is_ln, is_sn, nb0, nc0, nb1, nc1, nb2, nc2, nb3, nc3, nb4, nc4, nb5, nc5, nb6, nc6, nb7, nc7, nb8, nc8, nb9, nc9, nb10, nc10, nb11, nc11, nb12, nc12, nb13, nc13, nb14, nc14, nb15, nc15, nb16, nc16, nb17, nc17, nb18, nc18, nb19, nc19, nb20, nc20, nb21, nc21, nb22, nc22, nb23, nc23, nb24, nc24, nb25, nc25, nb26, nc26, nb27, nc27, nb28, nc28, nb29, nc29, nb30, nc30, nb31, nc31, nb32, nc32, nb33, nc33, nb34, nc34, nb35, nc35, nb36, nc36, nb37, nc37, nb38, nc38, nb39, nc39, nb40, nc40, r1_0, r1_1, r1_2, r1_3, r1_4, r1_5, r1_6, rgl_1, rgl_2, rgl_3, rgl_4, md_1, md_2, md_3, md_4, qt0, qt1, qt2, qt3, Int.reduceMul, Int.reduceNeg, Int.reduceAdd, Nat.add_zero, Nat.reduceAdd, Bool.true_and, Bool.and_true, Bool.false_and, Bool.and_false, Bool.or_false, Bool.false_or]
    rw [st, kFL_n]
end
theorem isc_ii {z : Int} : iscD (.int z) .non = some false := rfl
theorem dv_ne {a b p : Q} {k : Nat} : cmpD .ne (dv a b p k) (dv a b p k) = some false := by
  rcases dv_is (a := a) (b := b) (p := p) k with h | ⟨z, -, -, h, -⟩
  · rw [h]; rfl
  · rw [h]; show some (!(((z : Int)) == (z : Int))) = _; rw [BEq.rfl]; rfl

def lc_0 : T := (.asg (.nm 4) (.lst (.cons (.tup (.cons (.lit (.int 0)) (.cons (.lit (.int 1)) (.cons (.lit (.int 0)) (.cons (.lit (.int 0)) .nil))))) (.cons (.tup (.cons (.lit (.int 0)) (.cons (.lit (.int 0)) (.cons (.lit (.int 1)) (.cons (.lit (.int 0)) .nil))))) (.cons (.tup (.cons (.lit (.int 0)) (.cons (.lit (.int 1)) (.cons (.lit (.int 1)) (.cons (.lit (.int 0)) .nil))))) (.cons (.tup (.cons (.lit (.int 0)) (.cons (.lit (.int 1)) (.cons (.neg (.lit (.int 1))) (.cons (.lit (.int 0)) .nil))))) (.cons (.tup (.cons (.lit (.int 1)) (.cons (.lit (.int 0)) (.cons (.lit (.int 0)) (.cons (.neg (.lit (.int 1))) .nil))))) (.cons (.tup (.cons (.lit (.int 0)) (.cons (.lit (.int 3)) (.cons (.lit (.int 4)) (.cons (.lit (.int 0)) .nil))))) (.cons (.tup (.cons (.lit (.int 0)) (.cons (.lit (.int 1)) (.cons (.lit (.int 0)) (.cons (.neg (.lit (.int 1))) .nil))))) .nil)))))))))
def lc_1 : T := (.asg (.nm 5) (.call 17 (.cons (.arg 0) (.cons (.arg 1) (.cons (.arg 4) .nil)))))
def lc_2 : T := (.asg (.nm 6) (.call 17 (.cons (.arg 0) (.cons (.arg 1) (.cons (.bin .add (.arg 4) (.lst (.cons (.var 3) .nil))) .nil)))))
def lc_3 : T := (.asg (.nm 7) (.call 16 (.cons (.arg 0) (.cons (.arg 1) (.cons (.lit (.int 31)) .nil)))))
def lc_4 : T := (.asg (.nm 8) (.lit (.non)))
def lc_5 : T := (.asg (.nm 9) (.var 2))
def lc_6 : T := (.for (.nm 10) (.rng1 (.blt .min2 (.cons (.arg 7) (.cons (.lit (.int 9)) .nil)))) lcB)
def lc_7 : T := (.ite (.and (.or (.cmp .lt (.arg 7) (.lit (.int 10))) (.isc (.arg 8) .non false)) (.cmp .ne (.call 22 (.cons (.lit (.int 2)) (.cons (.arg 2) (.cons (.arg 5) (.cons (.arg 6) (.cons (.arg 7) .nil)))))) (.arg 8))) (.ret (.lit (.bl false))) .nop)
def lc_8 : T := (.ite (.and (.isc (.arg 8) .non false) (.isc (.call 22 (.cons (.lit (.int 2)) (.cons (.arg 2) (.cons (.arg 5) (.cons (.arg 6) (.cons (.bin .sub (.arg 8) (.lit (.int 1))) .nil)))))) .non false)) (.ret (.lit (.bl false))) .nop)
def lc_9 : T := (.ret (.cmp .eq (.comp [10] (.nm 10) (.tup (.cons (.neg (.lit (.int 1))) (.cons (.lit (.int 31)) .nil))) (.lit (.bl true)) (.call 22 (.cons (.lit (.int 2)) (.cons (.arg 2) (.cons (.arg 5) (.cons (.arg 6) (.cons (.arg 10) .nil))))))) (.bin .mul (.lst (.cons (.tup (.cons (.lit (.str "refused")) (.cons (.lit (.str "number")) .nil))) .nil)) (.lit (.int 2)))))
theorem comes_eq : i__law_comes = (.seq lc_0 (.seq lc_1 (.seq lc_2 (.seq lc_3 (.seq lc_4 (.seq lc_5 (.seq lc_6 (.seq lc_7 (.seq lc_8 lc_9))))))))) := rfl
abbrev c8 : Ce := callE LW Pr 18
theorem line_ok : okS 7 ⟨0, 1, 0, 0⟩ ∧ okS 7 ⟨0, 0, 1, 0⟩ ∧ okS 7 ⟨0, 1, 1, 0⟩ ∧ okS 7 ⟨0, 1, -1, 0⟩ ∧ okS 7 ⟨1, 0, 0, -1⟩ ∧ okS 7 ⟨0, 3, 4, 0⟩ ∧ okS 7 ⟨0, 1, 0, -1⟩ := by
  refine ⟨?_, ?_, ?_, ?_, ?_, ?_, ?_⟩ <;> exact ⟨⟨by decide, by decide, by decide, by decide⟩, by decide +kernel, by decide +kernel⟩
theorem v_comes {ns : List Int} {xs0 : List D} {p g : Q} (h0 : xs0.length < 10000) (hp : okS 7 p) (hg : okS 7 g) : ∃ xs' : List D, callE LW Pr 19 25 [.d (.scr ns), .ref 0, .d p.t, .d g.t] [.live (.lst xs0)] = some (.ok (.bl true), [.live (.lst xs')]) := by
  obtain ⟨k0, k1, k2, k3, k4, k5, k6⟩ := line_ok
  obtain ⟨ya, ma, ea⟩ := pk (xs := xs0) (R := []) (ns := ns) 14 (ys := [.tup [.int 0, .int 1, .int 0, .int 0], .tup [.int 0, .int 0, .int 1, .int 0], .tup [.int 0, .int 1, .int 1, .int 0], .tup [.int 0, .int 1, .int (-1), .int 0], .tup [.int 1, .int 0, .int 0, .int (-1)], .tup [.int 0, .int 3, .int 4, .int 0], .tup [.int 0, .int 1, .int 0, .int (-1)]]) (by decide) (by omega)
  have l1 : (xs0 ++ [D.int 0]).length = xs0.length + 1 := by simp
  generalize xs0 ++ [D.int 0] = xs1 at ea l1
  obtain ⟨yb, mb, eb⟩ := pk (xs := xs1) (R := []) (ns := ns) 14 (ys := [.tup [.int 0, .int 1, .int 0, .int 0], .tup [.int 0, .int 0, .int 1, .int 0], .tup [.int 0, .int 1, .int 1, .int 0], .tup [.int 0, .int 1, .int (-1), .int 0], .tup [.int 1, .int 0, .int 0, .int (-1)], .tup [.int 0, .int 3, .int 4, .int 0], .tup [.int 0, .int 1, .int 0, .int (-1)], g.t]) (Nat.zero_lt_succ _) (by omega)
  have l2 : (xs1 ++ [D.int 0]).length = xs1.length + 1 := by simp
  generalize xs1 ++ [D.int 0] = xs2 at eb l2
  obtain ⟨z, z1, z2, ez⟩ := dr (xs := xs2) (R := []) (ns := ns) 31 (by decide) (by omega)
  have ez := ez 15
  generalize xs2 ++ [D.int 0] = xs3 at ez
  obtain ⟨a, ha, rfl⟩ : ∃ a : Q, okS 7 a ∧ ya = a.t := by
    simp only [List.mem_cons, List.not_mem_nil, or_false] at ma
    rcases ma with h | h | h | h | h | h | h
    · exact ⟨_, k0, h⟩
    · exact ⟨_, k1, h⟩
    · exact ⟨_, k2, h⟩
    · exact ⟨_, k3, h⟩
    · exact ⟨_, k4, h⟩
    · exact ⟨_, k5, h⟩
    · exact ⟨_, k6, h⟩
  obtain ⟨b, hb, rfl⟩ : ∃ b : Q, okS 7 b ∧ yb = b.t := by
    simp only [List.mem_cons, List.not_mem_nil, or_false] at mb
    rcases mb with h | h | h | h | h | h | h | h
    · exact ⟨_, k0, h⟩
    · exact ⟨_, k1, h⟩
    · exact ⟨_, k2, h⟩
    · exact ⟨_, k3, h⟩
    · exact ⟨_, k4, h⟩
    · exact ⟨_, k5, h⟩
    · exact ⟨_, k6, h⟩
    · exact ⟨_, hg, h⟩
  obtain ⟨M, rfl⟩ : ∃ M : Nat, z = (M : Int) := ⟨z.toNat, by omega⟩
  have hM : M ≤ 30 := by omega
  refine ⟨xs3, (call_m (k := 1) (fr := [.d (.scr ns), .ref 0, .d p.t, .d g.t, .un, .un, .un, .un, .un, .un, .un]) (S1 := [.live (.lst xs0)]) (p := 4) (q := 11) (m := 0) (bd := i__law_comes) rfl rfl rfl rfl rfl).trans ?_⟩
  rw [comes_eq]
  have v0 : evT LW c8 1 lc_0 [.d (.scr ns), .ref 0, .d p.t, .d g.t, .un, .un, .un, .un, .un, .un, .un] [.live (.lst xs0)] = some (.nx, [.d (.scr ns), .ref 0, .d p.t, .d g.t, .d (.lst [.tup [.int 0, .int 1, .int 0, .int 0], .tup [.int 0, .int 0, .int 1, .int 0], .tup [.int 0, .int 1, .int 1, .int 0], .tup [.int 0, .int 1, .int (-1), .int 0], .tup [.int 1, .int 0, .int 0, .int (-1)], .tup [.int 0, .int 3, .int 4, .int 0], .tup [.int 0, .int 1, .int 0, .int (-1)]]), .un, .un, .un, .un, .un, .un], [.live (.lst xs0)]) := by
    simp only [lc_0, c8, e_var, kV_d, kV_r, kVr_l, kVr_f, e_arg, kA_d, kA_r, e_lit, pk_d, pk_r, kPr_l, kPr_f, outD_s, outB_s, e_bin, kBin1_v, kBin1_r, kBin2_v, kBin2_r, kBin3_s, e_cmp, kCmp1_v, kCmp1_r, kCmp2_v, kCmp2_r, kCmp3_s, e_idx, kIdx1_v, kIdx1_r, kIdx2_v, kIdx2_r, kIdx3_s, e_neg, kNeg1_v, kNeg1_r, e_tru, kTru1_v, kTru1_r, kNeg2_s, kTru2_s, e_isc, kIsc1_v, kIsc1_r, kIsc2_s, e_and, kAnd_t, kAnd_f, kAnd_r, e_or, kOr_t, kOr_f, kOr_r, e_not, kNot_t, kNot_f, kNot_r, e_ifx, kIfx_t, kIfx_f, kIfx_r, e_chn, kCh1_v, kCh1_r, kCh2_v, kCh2_r, kChP_s, kChB_t, kChB_f, kCh3_v, kCh3_r, kCh4_s, e_nil, e_cons, kCs1_v, kCs1_r, kCs2_v, kCs2_r, e_tup, kTu1_v, kTu1_r, kTu2_0, kTu2_1, kTu2_2, kTu2_3, kTu2_4, kTu2_5, kTu2_6, kTu2_7, kTu2_8, e_lst, kLi1_v, kLi1_r, kLi2_0, kLi2_1, kLi2_2, kLi2_3, kLi2_4, kLi2_5, kLi2_6, kLi2_7, kLi2_8, datL, Option.map_some, e_call, kCa1_v, kCa1_r, kCa2_o, kCa2_r, e_blt, kBl1_v, kBl1_r, kBl2_s, pl_nil, pl_cons, kPL_s, e_rng1, kR1_v, e_rng2, kR2_v, kR2_r, kR2b_v, e_comp, kC1_v, kC1_r, cl_nil, cl_cons, kCL_y, kCL_n, s_step, kS1_s, kS2_t, kS2_f, kS3_v, t_seq, kSq_n, kSq_t, kSq_r, kSq_b, t_nop, t_asg, kAs1_v, kAs1_r, kAs2_s, t_par, kPa1_v, kPa2_v, par_d, t_ret, kRt_v, kRt_r, t_exp, kEx_v, kEx_r, t_ite, kIt_t, kIt_f, kIt_r, t_rse, t_brk, t_try, kTr_r, kTr_n, kTr_t, t_for, kF1_v, kF1_r, kF2_s, fl_nil, fl_cons, kFL_n, kFL_t, kFL_r, kFL_b, s_for, kSF_s, List.getElem?_cons_zero, List.getElem?_cons_succ, List.set_cons_zero, List.set_cons_succ, List.length_cons, List.length_nil, List.cons_append, List.nil_append, b_add, b_sub, b_mul, b_fdiv, b_mod, c_lt, c_le, c_gt, c_ge, c_eq, c_ne, c_eqi, c_nei, l_tup, l_list, l_abs, sq_t, sq_l, i_t1_0, i_l1_0, i_t2_0, i_l2_0, i_t2_1, i_l2_1, i_t3_0, i_l3_0, i_t3_1, i_l3_1, i_t3_2, i_l3_2, i_t4_0, i_l4_0, i_t4_1, i_l4_1, i_t4_2, i_l4_2, i_t4_3, i_l4_3, i_t5_0, i_l5_0, i_t5_1, i_l5_1, i_t5_2, i_l5_2, i_t5_3, i_l5_3, i_t5_4, i_l5_4, i_t6_0, i_l6_0, i_t6_1, i_l6_1, i_t6_2, i_l6_2, i_t6_3, i_l6_3, i_t6_4, i_l6_4, i_t6_5, i_l6_5, bt_nm, wp_nil, wp_cons, List.replicate, Nat.reduceSub, List.append_nil, Int.reduceLT, Int.reduceLE, Int.reduceBEq, Int.reduceSub, decide_true, decide_false, Bool.not_true, Bool.not_false, Bool.not_not, e_rz, e_rz1, e_ok, e_nx, isc_e, ln0, ln1, ln2, ln3, ln4, lt2, lt4, if_true, if_false, reduceIte, Bool.false_eq_true, bt_nil_t, bt_cons_t, bt_nil_l, bt_cons_l, Option.bind, e_okC, t_asgM, kM1_l, kM2_t, kM1_r, nr_nil, nr_d, nr_u, nr_r, bq_0, bq_0a, bl_1, bl_1z, bl_2, bl_2z, bl_21, bl_c1, bl_c1z, bl_c1y, bl_c1x, bl_c2, bl_c2z, bl_c21, g_1, g_2, g_21, s_1, s_2, s_21, t_apd2, kAp3_u, kAp4_t, kP1_v, kP1_r, kP2_l, kP3_v, kP3_r, e_ok1, e_nx1, e_ok2, e_rz2, e_ok1c, e_ok2c, kC2_u, kC3_t, e_dsel, kD1_v, kD2_v, e_mth, kMt1_v, kMt2_l, kMt3_v, kMt4_s, l_any4, l_all4, ist_s0, ist_i0, tr_bl, is_nn, is_bn, is_in, is_tn, is_ln, is_sn, nb0, nc0, nb1, nc1, nb2, nc2, nb3, nc3, nb4, nc4, nb5, nc5, nb6, nc6, nb7, nc7, nb8, nc8, nb9, nc9, nb10, nc10, nb11, nc11, nb12, nc12, nb13, nc13, nb14, nc14, nb15, nc15, nb16, nc16, nb17, nc17, nb18, nc18, nb19, nc19, nb20, nc20, nb21, nc21, nb22, nc22, nb23, nc23, nb24, nc24, nb25, nc25, nb26, nc26, nb27, nc27, nb28, nc28, nb29, nc29, nb30, nc30, nb31, nc31, nb32, nc32, nb33, nc33, nb34, nc34, nb35, nc35, nb36, nc36, nb37, nc37, nb38, nc38, nb39, nc39, nb40, nc40, r1_0, r1_1, r1_2, r1_3, r1_4, r1_5, r1_6, rgl_1, rgl_2, rgl_3, rgl_4, md_1, md_2, md_3, md_4, qt0, qt1, qt2, qt3, Int.reduceMul, Int.reduceNeg, Int.reduceAdd, Nat.add_zero, Nat.reduceAdd, Bool.true_and, Bool.and_true, Bool.false_and, Bool.and_false, Bool.or_false, Bool.false_or]
  rw [seq_nx v0]
  have v1 : evT LW c8 1 lc_1 [.d (.scr ns), .ref 0, .d p.t, .d g.t, .d (.lst [.tup [.int 0, .int 1, .int 0, .int 0], .tup [.int 0, .int 0, .int 1, .int 0], .tup [.int 0, .int 1, .int 1, .int 0], .tup [.int 0, .int 1, .int (-1), .int 0], .tup [.int 1, .int 0, .int 0, .int (-1)], .tup [.int 0, .int 3, .int 4, .int 0], .tup [.int 0, .int 1, .int 0, .int (-1)]]), .un, .un, .un, .un, .un, .un] [.live (.lst xs0)] = some (.nx, [.d (.scr ns), .ref 0, .d p.t, .d g.t, .d (.lst [.tup [.int 0, .int 1, .int 0, .int 0], .tup [.int 0, .int 0, .int 1, .int 0], .tup [.int 0, .int 1, .int 1, .int 0], .tup [.int 0, .int 1, .int (-1), .int 0], .tup [.int 1, .int 0, .int 0, .int (-1)], .tup [.int 0, .int 3, .int 4, .int 0], .tup [.int 0, .int 1, .int 0, .int (-1)]]), .d a.t, .un, .un, .un, .un, .un], [.live (.lst xs1)]) := by
    simp only [lc_1, c8, ea, e_var, kV_d, kV_r, kVr_l, kVr_f, e_arg, kA_d, kA_r, e_lit, pk_d, pk_r, kPr_l, kPr_f, outD_s, outB_s, e_bin, kBin1_v, kBin1_r, kBin2_v, kBin2_r, kBin3_s, e_cmp, kCmp1_v, kCmp1_r, kCmp2_v, kCmp2_r, kCmp3_s, e_idx, kIdx1_v, kIdx1_r, kIdx2_v, kIdx2_r, kIdx3_s, e_neg, kNeg1_v, kNeg1_r, e_tru, kTru1_v, kTru1_r, kNeg2_s, kTru2_s, e_isc, kIsc1_v, kIsc1_r, kIsc2_s, e_and, kAnd_t, kAnd_f, kAnd_r, e_or, kOr_t, kOr_f, kOr_r, e_not, kNot_t, kNot_f, kNot_r, e_ifx, kIfx_t, kIfx_f, kIfx_r, e_chn, kCh1_v, kCh1_r, kCh2_v, kCh2_r, kChP_s, kChB_t, kChB_f, kCh3_v, kCh3_r, kCh4_s, e_nil, e_cons, kCs1_v, kCs1_r, kCs2_v, kCs2_r, e_tup, kTu1_v, kTu1_r, kTu2_0, kTu2_1, kTu2_2, kTu2_3, kTu2_4, kTu2_5, kTu2_6, kTu2_7, kTu2_8, e_lst, kLi1_v, kLi1_r, kLi2_0, kLi2_1, kLi2_2, kLi2_3, kLi2_4, kLi2_5, kLi2_6, kLi2_7, kLi2_8, datL, Option.map_some, e_call, kCa1_v, kCa1_r, kCa2_o, kCa2_r, e_blt, kBl1_v, kBl1_r, kBl2_s, pl_nil, pl_cons, kPL_s, e_rng1, kR1_v, e_rng2, kR2_v, kR2_r, kR2b_v, e_comp, kC1_v, kC1_r, cl_nil, cl_cons, kCL_y, kCL_n, s_step, kS1_s, kS2_t, kS2_f, kS3_v, t_seq, kSq_n, kSq_t, kSq_r, kSq_b, t_nop, t_asg, kAs1_v, kAs1_r, kAs2_s, t_par, kPa1_v, kPa2_v, par_d, t_ret, kRt_v, kRt_r, t_exp, kEx_v, kEx_r, t_ite, kIt_t, kIt_f, kIt_r, t_rse, t_brk, t_try, kTr_r, kTr_n, kTr_t, t_for, kF1_v, kF1_r, kF2_s, fl_nil, fl_cons, kFL_n, kFL_t, kFL_r, kFL_b, s_for, kSF_s, List.getElem?_cons_zero, List.getElem?_cons_succ, List.set_cons_zero, List.set_cons_succ, List.length_cons, List.length_nil, List.cons_append, List.nil_append, b_add, b_sub, b_mul, b_fdiv, b_mod, c_lt, c_le, c_gt, c_ge, c_eq, c_ne, c_eqi, c_nei, l_tup, l_list, l_abs, sq_t, sq_l, i_t1_0, i_l1_0, i_t2_0, i_l2_0, i_t2_1, i_l2_1, i_t3_0, i_l3_0, i_t3_1, i_l3_1, i_t3_2, i_l3_2, i_t4_0, i_l4_0, i_t4_1, i_l4_1, i_t4_2, i_l4_2, i_t4_3, i_l4_3, i_t5_0, i_l5_0, i_t5_1, i_l5_1, i_t5_2, i_l5_2, i_t5_3, i_l5_3, i_t5_4, i_l5_4, i_t6_0, i_l6_0, i_t6_1, i_l6_1, i_t6_2, i_l6_2, i_t6_3, i_l6_3, i_t6_4, i_l6_4, i_t6_5, i_l6_5, bt_nm, wp_nil, wp_cons, List.replicate, Nat.reduceSub, List.append_nil, Int.reduceLT, Int.reduceLE, Int.reduceBEq, Int.reduceSub, decide_true, decide_false, Bool.not_true, Bool.not_false, Bool.not_not, e_rz, e_rz1, e_ok, e_nx, isc_e, ln0, ln1, ln2, ln3, ln4, lt2, lt4, if_true, if_false, reduceIte, Bool.false_eq_true, bt_nil_t, bt_cons_t, bt_nil_l, bt_cons_l, Option.bind, e_okC, t_asgM, kM1_l, kM2_t, kM1_r, nr_nil, nr_d, nr_u, nr_r, bq_0, bq_0a, bl_1, bl_1z, bl_2, bl_2z, bl_21, bl_c1, bl_c1z, bl_c1y, bl_c1x, bl_c2, bl_c2z, bl_c21, g_1, g_2, g_21, s_1, s_2, s_21, t_apd2, kAp3_u, kAp4_t, kP1_v, kP1_r, kP2_l, kP3_v, kP3_r, e_ok1, e_nx1, e_ok2, e_rz2, e_ok1c, e_ok2c, kC2_u, kC3_t, e_dsel, kD1_v, kD2_v, e_mth, kMt1_v, kMt2_l, kMt3_v, kMt4_s, l_any4, l_all4, ist_s0, ist_i0, tr_bl, is_nn, is_bn, is_in, is_tn, is_ln, is_sn, nb0, nc0, nb1, nc1, nb2, nc2, nb3, nc3, nb4, nc4, nb5, nc5, nb6, nc6, nb7, nc7, nb8, nc8, nb9, nc9, nb10, nc10, nb11, nc11, nb12, nc12, nb13, nc13, nb14, nc14, nb15, nc15, nb16, nc16, nb17, nc17, nb18, nc18, nb19, nc19, nb20, nc20, nb21, nc21, nb22, nc22, nb23, nc23, nb24, nc24, nb25, nc25, nb26, nc26, nb27, nc27, nb28, nc28, nb29, nc29, nb30, nc30, nb31, nc31, nb32, nc32, nb33, nc33, nb34, nc34, nb35, nc35, nb36, nc36, nb37, nc37, nb38, nc38, nb39, nc39, nb40, nc40, r1_0, r1_1, r1_2, r1_3, r1_4, r1_5, r1_6, rgl_1, rgl_2, rgl_3, rgl_4, md_1, md_2, md_3, md_4, qt0, qt1, qt2, qt3, Int.reduceMul, Int.reduceNeg, Int.reduceAdd, Nat.add_zero, Nat.reduceAdd, Bool.true_and, Bool.and_true, Bool.false_and, Bool.and_false, Bool.or_false, Bool.false_or]
  rw [seq_nx v1]
  have ad : binD .add (.lst [.tup [.int 0, .int 1, .int 0, .int 0], .tup [.int 0, .int 0, .int 1, .int 0], .tup [.int 0, .int 1, .int 1, .int 0], .tup [.int 0, .int 1, .int (-1), .int 0], .tup [.int 1, .int 0, .int 0, .int (-1)], .tup [.int 0, .int 3, .int 4, .int 0], .tup [.int 0, .int 1, .int 0, .int (-1)]]) (.lst [g.t]) = some (.lst [.tup [.int 0, .int 1, .int 0, .int 0], .tup [.int 0, .int 0, .int 1, .int 0], .tup [.int 0, .int 1, .int 1, .int 0], .tup [.int 0, .int 1, .int (-1), .int 0], .tup [.int 1, .int 0, .int 0, .int (-1)], .tup [.int 0, .int 3, .int 4, .int 0], .tup [.int 0, .int 1, .int 0, .int (-1)], g.t]) := by kernel_rfl
  have v2 : evT LW c8 1 lc_2 [.d (.scr ns), .ref 0, .d p.t, .d g.t, .d (.lst [.tup [.int 0, .int 1, .int 0, .int 0], .tup [.int 0, .int 0, .int 1, .int 0], .tup [.int 0, .int 1, .int 1, .int 0], .tup [.int 0, .int 1, .int (-1), .int 0], .tup [.int 1, .int 0, .int 0, .int (-1)], .tup [.int 0, .int 3, .int 4, .int 0], .tup [.int 0, .int 1, .int 0, .int (-1)]]), .d a.t, .un, .un, .un, .un, .un] [.live (.lst xs1)] = some (.nx, [.d (.scr ns), .ref 0, .d p.t, .d g.t, .d (.lst [.tup [.int 0, .int 1, .int 0, .int 0], .tup [.int 0, .int 0, .int 1, .int 0], .tup [.int 0, .int 1, .int 1, .int 0], .tup [.int 0, .int 1, .int (-1), .int 0], .tup [.int 1, .int 0, .int 0, .int (-1)], .tup [.int 0, .int 3, .int 4, .int 0], .tup [.int 0, .int 1, .int 0, .int (-1)]]), .d a.t, .d b.t, .un, .un, .un, .un], [.live (.lst xs2)]) := by
    simp only [lc_2, c8, ad, eb, e_var, kV_d, kV_r, kVr_l, kVr_f, e_arg, kA_d, kA_r, e_lit, pk_d, pk_r, kPr_l, kPr_f, outD_s, outB_s, e_bin, kBin1_v, kBin1_r, kBin2_v, kBin2_r, kBin3_s, e_cmp, kCmp1_v, kCmp1_r, kCmp2_v, kCmp2_r, kCmp3_s, e_idx, kIdx1_v, kIdx1_r, kIdx2_v, kIdx2_r, kIdx3_s, e_neg, kNeg1_v, kNeg1_r, e_tru, kTru1_v, kTru1_r, kNeg2_s, kTru2_s, e_isc, kIsc1_v, kIsc1_r, kIsc2_s, e_and, kAnd_t, kAnd_f, kAnd_r, e_or, kOr_t, kOr_f, kOr_r, e_not, kNot_t, kNot_f, kNot_r, e_ifx, kIfx_t, kIfx_f, kIfx_r, e_chn, kCh1_v, kCh1_r, kCh2_v, kCh2_r, kChP_s, kChB_t, kChB_f, kCh3_v, kCh3_r, kCh4_s, e_nil, e_cons, kCs1_v, kCs1_r, kCs2_v, kCs2_r, e_tup, kTu1_v, kTu1_r, kTu2_0, kTu2_1, kTu2_2, kTu2_3, kTu2_4, kTu2_5, kTu2_6, kTu2_7, kTu2_8, e_lst, kLi1_v, kLi1_r, kLi2_0, kLi2_1, kLi2_2, kLi2_3, kLi2_4, kLi2_5, kLi2_6, kLi2_7, kLi2_8, datL, Option.map_some, e_call, kCa1_v, kCa1_r, kCa2_o, kCa2_r, e_blt, kBl1_v, kBl1_r, kBl2_s, pl_nil, pl_cons, kPL_s, e_rng1, kR1_v, e_rng2, kR2_v, kR2_r, kR2b_v, e_comp, kC1_v, kC1_r, cl_nil, cl_cons, kCL_y, kCL_n, s_step, kS1_s, kS2_t, kS2_f, kS3_v, t_seq, kSq_n, kSq_t, kSq_r, kSq_b, t_nop, t_asg, kAs1_v, kAs1_r, kAs2_s, t_par, kPa1_v, kPa2_v, par_d, t_ret, kRt_v, kRt_r, t_exp, kEx_v, kEx_r, t_ite, kIt_t, kIt_f, kIt_r, t_rse, t_brk, t_try, kTr_r, kTr_n, kTr_t, t_for, kF1_v, kF1_r, kF2_s, fl_nil, fl_cons, kFL_n, kFL_t, kFL_r, kFL_b, s_for, kSF_s, List.getElem?_cons_zero, List.getElem?_cons_succ, List.set_cons_zero, List.set_cons_succ, List.length_cons, List.length_nil, List.cons_append, List.nil_append, b_add, b_sub, b_mul, b_fdiv, b_mod, c_lt, c_le, c_gt, c_ge, c_eq, c_ne, c_eqi, c_nei, l_tup, l_list, l_abs, sq_t, sq_l, i_t1_0, i_l1_0, i_t2_0, i_l2_0, i_t2_1, i_l2_1, i_t3_0, i_l3_0, i_t3_1, i_l3_1, i_t3_2, i_l3_2, i_t4_0, i_l4_0, i_t4_1, i_l4_1, i_t4_2, i_l4_2, i_t4_3, i_l4_3, i_t5_0, i_l5_0, i_t5_1, i_l5_1, i_t5_2, i_l5_2, i_t5_3, i_l5_3, i_t5_4, i_l5_4, i_t6_0, i_l6_0, i_t6_1, i_l6_1, i_t6_2, i_l6_2, i_t6_3, i_l6_3, i_t6_4, i_l6_4, i_t6_5, i_l6_5, bt_nm, wp_nil, wp_cons, List.replicate, Nat.reduceSub, List.append_nil, Int.reduceLT, Int.reduceLE, Int.reduceBEq, Int.reduceSub, decide_true, decide_false, Bool.not_true, Bool.not_false, Bool.not_not, e_rz, e_rz1, e_ok, e_nx, isc_e, ln0, ln1, ln2, ln3, ln4, lt2, lt4, if_true, if_false, reduceIte, Bool.false_eq_true, bt_nil_t, bt_cons_t, bt_nil_l, bt_cons_l, Option.bind, e_okC, t_asgM, kM1_l, kM2_t, kM1_r, nr_nil, nr_d, nr_u, nr_r, bq_0, bq_0a, bl_1, bl_1z, bl_2, bl_2z, bl_21, bl_c1, bl_c1z, bl_c1y, bl_c1x, bl_c2, bl_c2z, bl_c21, g_1, g_2, g_21, s_1, s_2, s_21, t_apd2, kAp3_u, kAp4_t, kP1_v, kP1_r, kP2_l, kP3_v, kP3_r, e_ok1, e_nx1, e_ok2, e_rz2, e_ok1c, e_ok2c, kC2_u, kC3_t, e_dsel, kD1_v, kD2_v, e_mth, kMt1_v, kMt2_l, kMt3_v, kMt4_s, l_any4, l_all4, ist_s0, ist_i0, tr_bl, is_nn, is_bn, is_in, is_tn, is_ln, is_sn, nb0, nc0, nb1, nc1, nb2, nc2, nb3, nc3, nb4, nc4, nb5, nc5, nb6, nc6, nb7, nc7, nb8, nc8, nb9, nc9, nb10, nc10, nb11, nc11, nb12, nc12, nb13, nc13, nb14, nc14, nb15, nc15, nb16, nc16, nb17, nc17, nb18, nc18, nb19, nc19, nb20, nc20, nb21, nc21, nb22, nc22, nb23, nc23, nb24, nc24, nb25, nc25, nb26, nc26, nb27, nc27, nb28, nc28, nb29, nc29, nb30, nc30, nb31, nc31, nb32, nc32, nb33, nc33, nb34, nc34, nb35, nc35, nb36, nc36, nb37, nc37, nb38, nc38, nb39, nc39, nb40, nc40, r1_0, r1_1, r1_2, r1_3, r1_4, r1_5, r1_6, rgl_1, rgl_2, rgl_3, rgl_4, md_1, md_2, md_3, md_4, qt0, qt1, qt2, qt3, Int.reduceMul, Int.reduceNeg, Int.reduceAdd, Nat.add_zero, Nat.reduceAdd, Bool.true_and, Bool.and_true, Bool.false_and, Bool.and_false, Bool.or_false, Bool.false_or]
  rw [seq_nx v2]
  have v3 : evT LW c8 1 lc_3 [.d (.scr ns), .ref 0, .d p.t, .d g.t, .d (.lst [.tup [.int 0, .int 1, .int 0, .int 0], .tup [.int 0, .int 0, .int 1, .int 0], .tup [.int 0, .int 1, .int 1, .int 0], .tup [.int 0, .int 1, .int (-1), .int 0], .tup [.int 1, .int 0, .int 0, .int (-1)], .tup [.int 0, .int 3, .int 4, .int 0], .tup [.int 0, .int 1, .int 0, .int (-1)]]), .d a.t, .d b.t, .un, .un, .un, .un] [.live (.lst xs2)] = some (.nx, [.d (.scr ns), .ref 0, .d p.t, .d g.t, .d (.lst [.tup [.int 0, .int 1, .int 0, .int 0], .tup [.int 0, .int 0, .int 1, .int 0], .tup [.int 0, .int 1, .int 1, .int 0], .tup [.int 0, .int 1, .int (-1), .int 0], .tup [.int 1, .int 0, .int 0, .int (-1)], .tup [.int 0, .int 3, .int 4, .int 0], .tup [.int 0, .int 1, .int 0, .int (-1)]]), .d a.t, .d b.t, .d (.int (M : Int)), .un, .un, .un], [.live (.lst xs3)]) := by
    simp only [lc_3, c8, ez, e_var, kV_d, kV_r, kVr_l, kVr_f, e_arg, kA_d, kA_r, e_lit, pk_d, pk_r, kPr_l, kPr_f, outD_s, outB_s, e_bin, kBin1_v, kBin1_r, kBin2_v, kBin2_r, kBin3_s, e_cmp, kCmp1_v, kCmp1_r, kCmp2_v, kCmp2_r, kCmp3_s, e_idx, kIdx1_v, kIdx1_r, kIdx2_v, kIdx2_r, kIdx3_s, e_neg, kNeg1_v, kNeg1_r, e_tru, kTru1_v, kTru1_r, kNeg2_s, kTru2_s, e_isc, kIsc1_v, kIsc1_r, kIsc2_s, e_and, kAnd_t, kAnd_f, kAnd_r, e_or, kOr_t, kOr_f, kOr_r, e_not, kNot_t, kNot_f, kNot_r, e_ifx, kIfx_t, kIfx_f, kIfx_r, e_chn, kCh1_v, kCh1_r, kCh2_v, kCh2_r, kChP_s, kChB_t, kChB_f, kCh3_v, kCh3_r, kCh4_s, e_nil, e_cons, kCs1_v, kCs1_r, kCs2_v, kCs2_r, e_tup, kTu1_v, kTu1_r, kTu2_0, kTu2_1, kTu2_2, kTu2_3, kTu2_4, kTu2_5, kTu2_6, kTu2_7, kTu2_8, e_lst, kLi1_v, kLi1_r, kLi2_0, kLi2_1, kLi2_2, kLi2_3, kLi2_4, kLi2_5, kLi2_6, kLi2_7, kLi2_8, datL, Option.map_some, e_call, kCa1_v, kCa1_r, kCa2_o, kCa2_r, e_blt, kBl1_v, kBl1_r, kBl2_s, pl_nil, pl_cons, kPL_s, e_rng1, kR1_v, e_rng2, kR2_v, kR2_r, kR2b_v, e_comp, kC1_v, kC1_r, cl_nil, cl_cons, kCL_y, kCL_n, s_step, kS1_s, kS2_t, kS2_f, kS3_v, t_seq, kSq_n, kSq_t, kSq_r, kSq_b, t_nop, t_asg, kAs1_v, kAs1_r, kAs2_s, t_par, kPa1_v, kPa2_v, par_d, t_ret, kRt_v, kRt_r, t_exp, kEx_v, kEx_r, t_ite, kIt_t, kIt_f, kIt_r, t_rse, t_brk, t_try, kTr_r, kTr_n, kTr_t, t_for, kF1_v, kF1_r, kF2_s, fl_nil, fl_cons, kFL_n, kFL_t, kFL_r, kFL_b, s_for, kSF_s, List.getElem?_cons_zero, List.getElem?_cons_succ, List.set_cons_zero, List.set_cons_succ, List.length_cons, List.length_nil, List.cons_append, List.nil_append, b_add, b_sub, b_mul, b_fdiv, b_mod, c_lt, c_le, c_gt, c_ge, c_eq, c_ne, c_eqi, c_nei, l_tup, l_list, l_abs, sq_t, sq_l, i_t1_0, i_l1_0, i_t2_0, i_l2_0, i_t2_1, i_l2_1, i_t3_0, i_l3_0, i_t3_1, i_l3_1, i_t3_2, i_l3_2, i_t4_0, i_l4_0, i_t4_1, i_l4_1, i_t4_2, i_l4_2, i_t4_3, i_l4_3, i_t5_0, i_l5_0, i_t5_1, i_l5_1, i_t5_2, i_l5_2, i_t5_3, i_l5_3, i_t5_4, i_l5_4, i_t6_0, i_l6_0, i_t6_1, i_l6_1, i_t6_2, i_l6_2, i_t6_3, i_l6_3, i_t6_4, i_l6_4, i_t6_5, i_l6_5, bt_nm, wp_nil, wp_cons, List.replicate, Nat.reduceSub, List.append_nil, Int.reduceLT, Int.reduceLE, Int.reduceBEq, Int.reduceSub, decide_true, decide_false, Bool.not_true, Bool.not_false, Bool.not_not, e_rz, e_rz1, e_ok, e_nx, isc_e, ln0, ln1, ln2, ln3, ln4, lt2, lt4, if_true, if_false, reduceIte, Bool.false_eq_true, bt_nil_t, bt_cons_t, bt_nil_l, bt_cons_l, Option.bind, e_okC, t_asgM, kM1_l, kM2_t, kM1_r, nr_nil, nr_d, nr_u, nr_r, bq_0, bq_0a, bl_1, bl_1z, bl_2, bl_2z, bl_21, bl_c1, bl_c1z, bl_c1y, bl_c1x, bl_c2, bl_c2z, bl_c21, g_1, g_2, g_21, s_1, s_2, s_21, t_apd2, kAp3_u, kAp4_t, kP1_v, kP1_r, kP2_l, kP3_v, kP3_r, e_ok1, e_nx1, e_ok2, e_rz2, e_ok1c, e_ok2c, kC2_u, kC3_t, e_dsel, kD1_v, kD2_v, e_mth, kMt1_v, kMt2_l, kMt3_v, kMt4_s, l_any4, l_all4, ist_s0, ist_i0, tr_bl, is_nn, is_bn, is_in, is_tn, is_ln, is_sn, nb0, nc0, nb1, nc1, nb2, nc2, nb3, nc3, nb4, nc4, nb5, nc5, nb6, nc6, nb7, nc7, nb8, nc8, nb9, nc9, nb10, nc10, nb11, nc11, nb12, nc12, nb13, nc13, nb14, nc14, nb15, nc15, nb16, nc16, nb17, nc17, nb18, nc18, nb19, nc19, nb20, nc20, nb21, nc21, nb22, nc22, nb23, nc23, nb24, nc24, nb25, nc25, nb26, nc26, nb27, nc27, nb28, nc28, nb29, nc29, nb30, nc30, nb31, nc31, nb32, nc32, nb33, nc33, nb34, nc34, nb35, nc35, nb36, nc36, nb37, nc37, nb38, nc38, nb39, nc39, nb40, nc40, r1_0, r1_1, r1_2, r1_3, r1_4, r1_5, r1_6, rgl_1, rgl_2, rgl_3, rgl_4, md_1, md_2, md_3, md_4, qt0, qt1, qt2, qt3, Int.reduceMul, Int.reduceNeg, Int.reduceAdd, Nat.add_zero, Nat.reduceAdd, Bool.true_and, Bool.and_true, Bool.false_and, Bool.and_false, Bool.or_false, Bool.false_or]
  rw [seq_nx v3]
  have v4 : evT LW c8 1 lc_4 [.d (.scr ns), .ref 0, .d p.t, .d g.t, .d (.lst [.tup [.int 0, .int 1, .int 0, .int 0], .tup [.int 0, .int 0, .int 1, .int 0], .tup [.int 0, .int 1, .int 1, .int 0], .tup [.int 0, .int 1, .int (-1), .int 0], .tup [.int 1, .int 0, .int 0, .int (-1)], .tup [.int 0, .int 3, .int 4, .int 0], .tup [.int 0, .int 1, .int 0, .int (-1)]]), .d a.t, .d b.t, .d (.int (M : Int)), .un, .un, .un] [.live (.lst xs3)] = some (.nx, [.d (.scr ns), .ref 0, .d p.t, .d g.t, .d (.lst [.tup [.int 0, .int 1, .int 0, .int 0], .tup [.int 0, .int 0, .int 1, .int 0], .tup [.int 0, .int 1, .int 1, .int 0], .tup [.int 0, .int 1, .int (-1), .int 0], .tup [.int 1, .int 0, .int 0, .int (-1)], .tup [.int 0, .int 3, .int 4, .int 0], .tup [.int 0, .int 1, .int 0, .int (-1)]]), .d a.t, .d b.t, .d (.int (M : Int)), .d .non, .un, .un], [.live (.lst xs3)]) := by
    simp only [lc_4, c8, e_var, kV_d, kV_r, kVr_l, kVr_f, e_arg, kA_d, kA_r, e_lit, pk_d, pk_r, kPr_l, kPr_f, outD_s, outB_s, e_bin, kBin1_v, kBin1_r, kBin2_v, kBin2_r, kBin3_s, e_cmp, kCmp1_v, kCmp1_r, kCmp2_v, kCmp2_r, kCmp3_s, e_idx, kIdx1_v, kIdx1_r, kIdx2_v, kIdx2_r, kIdx3_s, e_neg, kNeg1_v, kNeg1_r, e_tru, kTru1_v, kTru1_r, kNeg2_s, kTru2_s, e_isc, kIsc1_v, kIsc1_r, kIsc2_s, e_and, kAnd_t, kAnd_f, kAnd_r, e_or, kOr_t, kOr_f, kOr_r, e_not, kNot_t, kNot_f, kNot_r, e_ifx, kIfx_t, kIfx_f, kIfx_r, e_chn, kCh1_v, kCh1_r, kCh2_v, kCh2_r, kChP_s, kChB_t, kChB_f, kCh3_v, kCh3_r, kCh4_s, e_nil, e_cons, kCs1_v, kCs1_r, kCs2_v, kCs2_r, e_tup, kTu1_v, kTu1_r, kTu2_0, kTu2_1, kTu2_2, kTu2_3, kTu2_4, kTu2_5, kTu2_6, kTu2_7, kTu2_8, e_lst, kLi1_v, kLi1_r, kLi2_0, kLi2_1, kLi2_2, kLi2_3, kLi2_4, kLi2_5, kLi2_6, kLi2_7, kLi2_8, datL, Option.map_some, e_call, kCa1_v, kCa1_r, kCa2_o, kCa2_r, e_blt, kBl1_v, kBl1_r, kBl2_s, pl_nil, pl_cons, kPL_s, e_rng1, kR1_v, e_rng2, kR2_v, kR2_r, kR2b_v, e_comp, kC1_v, kC1_r, cl_nil, cl_cons, kCL_y, kCL_n, s_step, kS1_s, kS2_t, kS2_f, kS3_v, t_seq, kSq_n, kSq_t, kSq_r, kSq_b, t_nop, t_asg, kAs1_v, kAs1_r, kAs2_s, t_par, kPa1_v, kPa2_v, par_d, t_ret, kRt_v, kRt_r, t_exp, kEx_v, kEx_r, t_ite, kIt_t, kIt_f, kIt_r, t_rse, t_brk, t_try, kTr_r, kTr_n, kTr_t, t_for, kF1_v, kF1_r, kF2_s, fl_nil, fl_cons, kFL_n, kFL_t, kFL_r, kFL_b, s_for, kSF_s, List.getElem?_cons_zero, List.getElem?_cons_succ, List.set_cons_zero, List.set_cons_succ, List.length_cons, List.length_nil, List.cons_append, List.nil_append, b_add, b_sub, b_mul, b_fdiv, b_mod, c_lt, c_le, c_gt, c_ge, c_eq, c_ne, c_eqi, c_nei, l_tup, l_list, l_abs, sq_t, sq_l, i_t1_0, i_l1_0, i_t2_0, i_l2_0, i_t2_1, i_l2_1, i_t3_0, i_l3_0, i_t3_1, i_l3_1, i_t3_2, i_l3_2, i_t4_0, i_l4_0, i_t4_1, i_l4_1, i_t4_2, i_l4_2, i_t4_3, i_l4_3, i_t5_0, i_l5_0, i_t5_1, i_l5_1, i_t5_2, i_l5_2, i_t5_3, i_l5_3, i_t5_4, i_l5_4, i_t6_0, i_l6_0, i_t6_1, i_l6_1, i_t6_2, i_l6_2, i_t6_3, i_l6_3, i_t6_4, i_l6_4, i_t6_5, i_l6_5, bt_nm, wp_nil, wp_cons, List.replicate, Nat.reduceSub, List.append_nil, Int.reduceLT, Int.reduceLE, Int.reduceBEq, Int.reduceSub, decide_true, decide_false, Bool.not_true, Bool.not_false, Bool.not_not, e_rz, e_rz1, e_ok, e_nx, isc_e, ln0, ln1, ln2, ln3, ln4, lt2, lt4, if_true, if_false, reduceIte, Bool.false_eq_true, bt_nil_t, bt_cons_t, bt_nil_l, bt_cons_l, Option.bind, e_okC, t_asgM, kM1_l, kM2_t, kM1_r, nr_nil, nr_d, nr_u, nr_r, bq_0, bq_0a, bl_1, bl_1z, bl_2, bl_2z, bl_21, bl_c1, bl_c1z, bl_c1y, bl_c1x, bl_c2, bl_c2z, bl_c21, g_1, g_2, g_21, s_1, s_2, s_21, t_apd2, kAp3_u, kAp4_t, kP1_v, kP1_r, kP2_l, kP3_v, kP3_r, e_ok1, e_nx1, e_ok2, e_rz2, e_ok1c, e_ok2c, kC2_u, kC3_t, e_dsel, kD1_v, kD2_v, e_mth, kMt1_v, kMt2_l, kMt3_v, kMt4_s, l_any4, l_all4, ist_s0, ist_i0, tr_bl, is_nn, is_bn, is_in, is_tn, is_ln, is_sn, nb0, nc0, nb1, nc1, nb2, nc2, nb3, nc3, nb4, nc4, nb5, nc5, nb6, nc6, nb7, nc7, nb8, nc8, nb9, nc9, nb10, nc10, nb11, nc11, nb12, nc12, nb13, nc13, nb14, nc14, nb15, nc15, nb16, nc16, nb17, nc17, nb18, nc18, nb19, nc19, nb20, nc20, nb21, nc21, nb22, nc22, nb23, nc23, nb24, nc24, nb25, nc25, nb26, nc26, nb27, nc27, nb28, nc28, nb29, nc29, nb30, nc30, nb31, nc31, nb32, nc32, nb33, nc33, nb34, nc34, nb35, nc35, nb36, nc36, nb37, nc37, nb38, nc38, nb39, nc39, nb40, nc40, r1_0, r1_1, r1_2, r1_3, r1_4, r1_5, r1_6, rgl_1, rgl_2, rgl_3, rgl_4, md_1, md_2, md_3, md_4, qt0, qt1, qt2, qt3, Int.reduceMul, Int.reduceNeg, Int.reduceAdd, Nat.add_zero, Nat.reduceAdd, Bool.true_and, Bool.and_true, Bool.false_and, Bool.and_false, Bool.or_false, Bool.false_or]
  rw [seq_nx v4]
  have v5 : evT LW c8 1 lc_5 [.d (.scr ns), .ref 0, .d p.t, .d g.t, .d (.lst [.tup [.int 0, .int 1, .int 0, .int 0], .tup [.int 0, .int 0, .int 1, .int 0], .tup [.int 0, .int 1, .int 1, .int 0], .tup [.int 0, .int 1, .int (-1), .int 0], .tup [.int 1, .int 0, .int 0, .int (-1)], .tup [.int 0, .int 3, .int 4, .int 0], .tup [.int 0, .int 1, .int 0, .int (-1)]]), .d a.t, .d b.t, .d (.int (M : Int)), .d .non, .un, .un] [.live (.lst xs3)] = some (.nx, [.d (.scr ns), .ref 0, .d p.t, .d g.t, .d (.lst [.tup [.int 0, .int 1, .int 0, .int 0], .tup [.int 0, .int 0, .int 1, .int 0], .tup [.int 0, .int 1, .int 1, .int 0], .tup [.int 0, .int 1, .int (-1), .int 0], .tup [.int 1, .int 0, .int 0, .int (-1)], .tup [.int 0, .int 3, .int 4, .int 0], .tup [.int 0, .int 1, .int 0, .int (-1)]]), .d a.t, .d b.t, .d (.int (M : Int)), .d .non, .d p.t, .un], [.live (.lst xs3)]) := by
    simp only [lc_5, c8, e_var, kV_d, kV_r, kVr_l, kVr_f, e_arg, kA_d, kA_r, e_lit, pk_d, pk_r, kPr_l, kPr_f, outD_s, outB_s, e_bin, kBin1_v, kBin1_r, kBin2_v, kBin2_r, kBin3_s, e_cmp, kCmp1_v, kCmp1_r, kCmp2_v, kCmp2_r, kCmp3_s, e_idx, kIdx1_v, kIdx1_r, kIdx2_v, kIdx2_r, kIdx3_s, e_neg, kNeg1_v, kNeg1_r, e_tru, kTru1_v, kTru1_r, kNeg2_s, kTru2_s, e_isc, kIsc1_v, kIsc1_r, kIsc2_s, e_and, kAnd_t, kAnd_f, kAnd_r, e_or, kOr_t, kOr_f, kOr_r, e_not, kNot_t, kNot_f, kNot_r, e_ifx, kIfx_t, kIfx_f, kIfx_r, e_chn, kCh1_v, kCh1_r, kCh2_v, kCh2_r, kChP_s, kChB_t, kChB_f, kCh3_v, kCh3_r, kCh4_s, e_nil, e_cons, kCs1_v, kCs1_r, kCs2_v, kCs2_r, e_tup, kTu1_v, kTu1_r, kTu2_0, kTu2_1, kTu2_2, kTu2_3, kTu2_4, kTu2_5, kTu2_6, kTu2_7, kTu2_8, e_lst, kLi1_v, kLi1_r, kLi2_0, kLi2_1, kLi2_2, kLi2_3, kLi2_4, kLi2_5, kLi2_6, kLi2_7, kLi2_8, datL, Option.map_some, e_call, kCa1_v, kCa1_r, kCa2_o, kCa2_r, e_blt, kBl1_v, kBl1_r, kBl2_s, pl_nil, pl_cons, kPL_s, e_rng1, kR1_v, e_rng2, kR2_v, kR2_r, kR2b_v, e_comp, kC1_v, kC1_r, cl_nil, cl_cons, kCL_y, kCL_n, s_step, kS1_s, kS2_t, kS2_f, kS3_v, t_seq, kSq_n, kSq_t, kSq_r, kSq_b, t_nop, t_asg, kAs1_v, kAs1_r, kAs2_s, t_par, kPa1_v, kPa2_v, par_d, t_ret, kRt_v, kRt_r, t_exp, kEx_v, kEx_r, t_ite, kIt_t, kIt_f, kIt_r, t_rse, t_brk, t_try, kTr_r, kTr_n, kTr_t, t_for, kF1_v, kF1_r, kF2_s, fl_nil, fl_cons, kFL_n, kFL_t, kFL_r, kFL_b, s_for, kSF_s, List.getElem?_cons_zero, List.getElem?_cons_succ, List.set_cons_zero, List.set_cons_succ, List.length_cons, List.length_nil, List.cons_append, List.nil_append, b_add, b_sub, b_mul, b_fdiv, b_mod, c_lt, c_le, c_gt, c_ge, c_eq, c_ne, c_eqi, c_nei, l_tup, l_list, l_abs, sq_t, sq_l, i_t1_0, i_l1_0, i_t2_0, i_l2_0, i_t2_1, i_l2_1, i_t3_0, i_l3_0, i_t3_1, i_l3_1, i_t3_2, i_l3_2, i_t4_0, i_l4_0, i_t4_1, i_l4_1, i_t4_2, i_l4_2, i_t4_3, i_l4_3, i_t5_0, i_l5_0, i_t5_1, i_l5_1, i_t5_2, i_l5_2, i_t5_3, i_l5_3, i_t5_4, i_l5_4, i_t6_0, i_l6_0, i_t6_1, i_l6_1, i_t6_2, i_l6_2, i_t6_3, i_l6_3, i_t6_4, i_l6_4, i_t6_5, i_l6_5, bt_nm, wp_nil, wp_cons, List.replicate, Nat.reduceSub, List.append_nil, Int.reduceLT, Int.reduceLE, Int.reduceBEq, Int.reduceSub, decide_true, decide_false, Bool.not_true, Bool.not_false, Bool.not_not, e_rz, e_rz1, e_ok, e_nx, isc_e, ln0, ln1, ln2, ln3, ln4, lt2, lt4, if_true, if_false, reduceIte, Bool.false_eq_true, bt_nil_t, bt_cons_t, bt_nil_l, bt_cons_l, Option.bind, e_okC, t_asgM, kM1_l, kM2_t, kM1_r, nr_nil, nr_d, nr_u, nr_r, bq_0, bq_0a, bl_1, bl_1z, bl_2, bl_2z, bl_21, bl_c1, bl_c1z, bl_c1y, bl_c1x, bl_c2, bl_c2z, bl_c21, g_1, g_2, g_21, s_1, s_2, s_21, t_apd2, kAp3_u, kAp4_t, kP1_v, kP1_r, kP2_l, kP3_v, kP3_r, e_ok1, e_nx1, e_ok2, e_rz2, e_ok1c, e_ok2c, kC2_u, kC3_t, e_dsel, kD1_v, kD2_v, e_mth, kMt1_v, kMt2_l, kMt3_v, kMt4_s, l_any4, l_all4, ist_s0, ist_i0, tr_bl, is_nn, is_bn, is_in, is_tn, is_ln, is_sn, nb0, nc0, nb1, nc1, nb2, nc2, nb3, nc3, nb4, nc4, nb5, nc5, nb6, nc6, nb7, nc7, nb8, nc8, nb9, nc9, nb10, nc10, nb11, nc11, nb12, nc12, nb13, nc13, nb14, nc14, nb15, nc15, nb16, nc16, nb17, nc17, nb18, nc18, nb19, nc19, nb20, nc20, nb21, nc21, nb22, nc22, nb23, nc23, nb24, nc24, nb25, nc25, nb26, nc26, nb27, nc27, nb28, nc28, nb29, nc29, nb30, nc30, nb31, nc31, nb32, nc32, nb33, nc33, nb34, nc34, nb35, nc35, nb36, nc36, nb37, nc37, nb38, nc38, nb39, nc39, nb40, nc40, r1_0, r1_1, r1_2, r1_3, r1_4, r1_5, r1_6, rgl_1, rgl_2, rgl_3, rgl_4, md_1, md_2, md_3, md_4, qt0, qt1, qt2, qt3, Int.reduceMul, Int.reduceNeg, Int.reduceAdd, Nat.add_zero, Nat.reduceAdd, Bool.true_and, Bool.and_true, Bool.false_and, Bool.and_false, Bool.or_false, Bool.false_or]
  rw [seq_nx v5]
  have s6 : ∃ (K : Nat) (t10 : Sl), ((M < 10 ∧ K = M) ∨ (10 ≤ M ∧ K = 9)) ∧ evT LW c8 1 lc_6 [.d (.scr ns), .ref 0, .d p.t, .d g.t, .d (.lst [.tup [.int 0, .int 1, .int 0, .int 0], .tup [.int 0, .int 0, .int 1, .int 0], .tup [.int 0, .int 1, .int 1, .int 0], .tup [.int 0, .int 1, .int (-1), .int 0], .tup [.int 1, .int 0, .int 0, .int (-1)], .tup [.int 0, .int 3, .int 4, .int 0], .tup [.int 0, .int 1, .int 0, .int (-1)]]), .d a.t, .d b.t, .d (.int (M : Int)), .d .non, .d p.t, .un] [.live (.lst xs3)] = some (.nx, [.d (.scr ns), .ref 0, .d p.t, .d g.t, .d (.lst [.tup [.int 0, .int 1, .int 0, .int 0], .tup [.int 0, .int 0, .int 1, .int 0], .tup [.int 0, .int 1, .int 1, .int 0], .tup [.int 0, .int 1, .int (-1), .int 0], .tup [.int 1, .int 0, .int 0, .int (-1)], .tup [.int 0, .int 3, .int 4, .int 0], .tup [.int 0, .int 1, .int 0, .int (-1)]]), .d a.t, .d b.t, .d (.int (M : Int)), .d (dv a b p K), .d (itQ a b p K).t, t10], [.live (.lst xs3)]) := by
    have key : ∀ K : Nat, K ≤ 9 → bltD LW .min2 [.int (M : Int), .int 9] = some (.int (K : Int)) → ∃ t10 : Sl, evT LW c8 1 lc_6 [.d (.scr ns), .ref 0, .d p.t, .d g.t, .d (.lst [.tup [.int 0, .int 1, .int 0, .int 0], .tup [.int 0, .int 0, .int 1, .int 0], .tup [.int 0, .int 1, .int 1, .int 0], .tup [.int 0, .int 1, .int (-1), .int 0], .tup [.int 1, .int 0, .int 0, .int (-1)], .tup [.int 0, .int 3, .int 4, .int 0], .tup [.int 0, .int 1, .int 0, .int (-1)]]), .d a.t, .d b.t, .d (.int (M : Int)), .d .non, .d p.t, .un] [.live (.lst xs3)] = some (.nx, [.d (.scr ns), .ref 0, .d p.t, .d g.t, .d (.lst [.tup [.int 0, .int 1, .int 0, .int 0], .tup [.int 0, .int 0, .int 1, .int 0], .tup [.int 0, .int 1, .int 1, .int 0], .tup [.int 0, .int 1, .int (-1), .int 0], .tup [.int 1, .int 0, .int 0, .int (-1)], .tup [.int 0, .int 3, .int 4, .int 0], .tup [.int 0, .int 1, .int 0, .int (-1)]]), .d a.t, .d b.t, .d (.int (M : Int)), .d (dv a b p K), .d (itQ a b p K).t, t10], [.live (.lst xs3)]) := fun K hK hb2 => by
      obtain ⟨t10, e⟩ := lc_loop ha hb hp (n := 15) (w := 1) (S := [.live (.lst xs3)]) (s0 := .d (.scr ns)) (s1 := .ref 0) (s3 := .d g.t) (s4 := .d (.lst [.tup [.int 0, .int 1, .int 0, .int 0], .tup [.int 0, .int 0, .int 1, .int 0], .tup [.int 0, .int 1, .int 1, .int 0], .tup [.int 0, .int 1, .int (-1), .int 0], .tup [.int 1, .int 0, .int 0, .int (-1)], .tup [.int 0, .int 3, .int 4, .int 0], .tup [.int 0, .int 1, .int 0, .int (-1)]])) (s7 := .d (.int (M : Int))) K 0 .un (by omega)
      rw [Nat.zero_add] at e
      have d0 : dv a b p 0 = .non := rfl
      have i0 : itQ a b p 0 = p := rfl
      rw [d0, i0] at e
      have mK : mid (K : Int) = true := by
        unfold mid
        rw [decide_eq_true (show -1000000 ≤ (K : Int) by omega), decide_eq_true (show (K : Int) ≤ 1000000 by omega)]
        rfl
      refine ⟨t10, ?_⟩
      unfold c8
      simp only [lc_6, hb2, kR1_v mK, rng_lo, e, e_var, kV_d, kV_r, kVr_l, kVr_f, e_arg, kA_d, kA_r, e_lit, pk_d, pk_r, kPr_l, kPr_f, outD_s, outB_s, e_bin, kBin1_v, kBin1_r, kBin2_v, kBin2_r, kBin3_s, e_cmp, kCmp1_v, kCmp1_r, kCmp2_v, kCmp2_r, kCmp3_s, e_idx, kIdx1_v, kIdx1_r, kIdx2_v, kIdx2_r, kIdx3_s, e_neg, kNeg1_v, kNeg1_r, e_tru, kTru1_v, kTru1_r, kNeg2_s, kTru2_s, e_isc, kIsc1_v, kIsc1_r, kIsc2_s, e_and, kAnd_t, kAnd_f, kAnd_r, e_or, kOr_t, kOr_f, kOr_r, e_not, kNot_t, kNot_f, kNot_r, e_ifx, kIfx_t, kIfx_f, kIfx_r, e_chn, kCh1_v, kCh1_r, kCh2_v, kCh2_r, kChP_s, kChB_t, kChB_f, kCh3_v, kCh3_r, kCh4_s, e_nil, e_cons, kCs1_v, kCs1_r, kCs2_v, kCs2_r, e_tup, kTu1_v, kTu1_r, kTu2_0, kTu2_1, kTu2_2, kTu2_3, kTu2_4, kTu2_5, kTu2_6, kTu2_7, kTu2_8, e_lst, kLi1_v, kLi1_r, kLi2_0, kLi2_1, kLi2_2, kLi2_3, kLi2_4, kLi2_5, kLi2_6, kLi2_7, kLi2_8, datL, Option.map_some, e_call, kCa1_v, kCa1_r, kCa2_o, kCa2_r, e_blt, kBl1_v, kBl1_r, kBl2_s, pl_nil, pl_cons, kPL_s, e_rng1, kR1_v, e_rng2, kR2_v, kR2_r, kR2b_v, e_comp, kC1_v, kC1_r, cl_nil, cl_cons, kCL_y, kCL_n, s_step, kS1_s, kS2_t, kS2_f, kS3_v, t_seq, kSq_n, kSq_t, kSq_r, kSq_b, t_nop, t_asg, kAs1_v, kAs1_r, kAs2_s, t_par, kPa1_v, kPa2_v, par_d, t_ret, kRt_v, kRt_r, t_exp, kEx_v, kEx_r, t_ite, kIt_t, kIt_f, kIt_r, t_rse, t_brk, t_try, kTr_r, kTr_n, kTr_t, t_for, kF1_v, kF1_r, kF2_s, fl_nil, fl_cons, kFL_n, kFL_t, kFL_r, kFL_b, s_for, kSF_s, List.getElem?_cons_zero, List.getElem?_cons_succ, List.set_cons_zero, List.set_cons_succ, List.length_cons, List.length_nil, List.cons_append, List.nil_append, b_add, b_sub, b_mul, b_fdiv, b_mod, c_lt, c_le, c_gt, c_ge, c_eq, c_ne, c_eqi, c_nei, l_tup, l_list, l_abs, sq_t, sq_l, i_t1_0, i_l1_0, i_t2_0, i_l2_0, i_t2_1, i_l2_1, i_t3_0, i_l3_0, i_t3_1, i_l3_1, i_t3_2, i_l3_2, i_t4_0, i_l4_0, i_t4_1, i_l4_1, i_t4_2, i_l4_2, i_t4_3, i_l4_3, i_t5_0, i_l5_0, i_t5_1, i_l5_1, i_t5_2, i_l5_2, i_t5_3, i_l5_3, i_t5_4, i_l5_4, i_t6_0, i_l6_0, i_t6_1, i_l6_1, i_t6_2, i_l6_2, i_t6_3, i_l6_3, i_t6_4, i_l6_4, i_t6_5, i_l6_5, bt_nm, wp_nil, wp_cons, List.replicate, Nat.reduceSub, List.append_nil, Int.reduceLT, Int.reduceLE, Int.reduceBEq, Int.reduceSub, decide_true, decide_false, Bool.not_true, Bool.not_false, Bool.not_not, e_rz, e_rz1, e_ok, e_nx, isc_e, ln0, ln1, ln2, ln3, ln4, lt2, lt4, if_true, if_false, reduceIte, Bool.false_eq_true, bt_nil_t, bt_cons_t, bt_nil_l, bt_cons_l, Option.bind, e_okC, t_asgM, kM1_l, kM2_t, kM1_r, nr_nil, nr_d, nr_u, nr_r, bq_0, bq_0a, bl_1, bl_1z, bl_2, bl_2z, bl_21, bl_c1, bl_c1z, bl_c1y, bl_c1x, bl_c2, bl_c2z, bl_c21, g_1, g_2, g_21, s_1, s_2, s_21, t_apd2, kAp3_u, kAp4_t, kP1_v, kP1_r, kP2_l, kP3_v, kP3_r, e_ok1, e_nx1, e_ok2, e_rz2, e_ok1c, e_ok2c, kC2_u, kC3_t, e_dsel, kD1_v, kD2_v, e_mth, kMt1_v, kMt2_l, kMt3_v, kMt4_s, l_any4, l_all4, ist_s0, ist_i0, tr_bl, is_nn, is_bn, is_in, is_tn, is_ln, is_sn, nb0, nc0, nb1, nc1, nb2, nc2, nb3, nc3, nb4, nc4, nb5, nc5, nb6, nc6, nb7, nc7, nb8, nc8, nb9, nc9, nb10, nc10, nb11, nc11, nb12, nc12, nb13, nc13, nb14, nc14, nb15, nc15, nb16, nc16, nb17, nc17, nb18, nc18, nb19, nc19, nb20, nc20, nb21, nc21, nb22, nc22, nb23, nc23, nb24, nc24, nb25, nc25, nb26, nc26, nb27, nc27, nb28, nc28, nb29, nc29, nb30, nc30, nb31, nc31, nb32, nc32, nb33, nc33, nb34, nc34, nb35, nc35, nb36, nc36, nb37, nc37, nb38, nc38, nb39, nc39, nb40, nc40, r1_0, r1_1, r1_2, r1_3, r1_4, r1_5, r1_6, rgl_1, rgl_2, rgl_3, rgl_4, md_1, md_2, md_3, md_4, qt0, qt1, qt2, qt3, Int.reduceMul, Int.reduceNeg, Int.reduceAdd, Nat.add_zero, Nat.reduceAdd, Bool.true_and, Bool.and_true, Bool.false_and, Bool.and_false, Bool.or_false, Bool.false_or]
    by_cases h : M < 10
    · obtain ⟨t, e⟩ := key M (by omega) (by
        show some (D.int (if (9 : Int) < (M : Int) then 9 else (M : Int))) = _
        rw [if_neg (by omega)])
      exact ⟨M, t, .inl ⟨h, rfl⟩, e⟩
    · obtain ⟨t, e⟩ := key 9 (by omega) (by
        show some (D.int (if (9 : Int) < (M : Int) then 9 else (M : Int))) = _
        rw [if_pos (by omega)]
        rfl)
      exact ⟨9, t, .inr ⟨by omega, rfl⟩, e⟩
  obtain ⟨K, t10, hK, v6⟩ := s6
  rw [seq_nx v6]
  have K30 : K ≤ 30 := by omega
  have tM := to_ok2 (n := 16) (v_cb ha hb hp (n := 13) (S := [.live (.lst xs3)]) hM)
  have tn := to_rz2 (n := 16) (v_cb_no hp (n := 13) (S := [.live (.lst xs3)]) ha hb (.inl rfl))
  have tp := to_rz2 (n := 16) (v_cb_no hp (n := 13) (S := [.live (.lst xs3)]) ha hb (.inr rfl))
  have v7 : evT LW c8 1 lc_7 [.d (.scr ns), .ref 0, .d p.t, .d g.t, .d (.lst [.tup [.int 0, .int 1, .int 0, .int 0], .tup [.int 0, .int 0, .int 1, .int 0], .tup [.int 0, .int 1, .int 1, .int 0], .tup [.int 0, .int 1, .int (-1), .int 0], .tup [.int 1, .int 0, .int 0, .int (-1)], .tup [.int 0, .int 3, .int 4, .int 0], .tup [.int 0, .int 1, .int 0, .int (-1)]]), .d a.t, .d b.t, .d (.int (M : Int)), .d (dv a b p K), .d (itQ a b p K).t, t10] [.live (.lst xs3)] = some (.nx, [.d (.scr ns), .ref 0, .d p.t, .d g.t, .d (.lst [.tup [.int 0, .int 1, .int 0, .int 0], .tup [.int 0, .int 0, .int 1, .int 0], .tup [.int 0, .int 1, .int 1, .int 0], .tup [.int 0, .int 1, .int (-1), .int 0], .tup [.int 1, .int 0, .int 0, .int (-1)], .tup [.int 0, .int 3, .int 4, .int 0], .tup [.int 0, .int 1, .int 0, .int (-1)]]), .d a.t, .d b.t, .d (.int (M : Int)), .d (dv a b p K), .d (itQ a b p K).t, t10], [.live (.lst xs3)]) := by
    rcases hK with ⟨h1, rfl⟩ | ⟨h1, rfl⟩
    · have d : decide ((K : Int) < 10) = true := decide_eq_true (by omega)
      simp only [lc_7, c8, d, tM, dv_ne, e_var, kV_d, kV_r, kVr_l, kVr_f, e_arg, kA_d, kA_r, e_lit, pk_d, pk_r, kPr_l, kPr_f, outD_s, outB_s, e_bin, kBin1_v, kBin1_r, kBin2_v, kBin2_r, kBin3_s, e_cmp, kCmp1_v, kCmp1_r, kCmp2_v, kCmp2_r, kCmp3_s, e_idx, kIdx1_v, kIdx1_r, kIdx2_v, kIdx2_r, kIdx3_s, e_neg, kNeg1_v, kNeg1_r, e_tru, kTru1_v, kTru1_r, kNeg2_s, kTru2_s, e_isc, kIsc1_v, kIsc1_r, kIsc2_s, e_and, kAnd_t, kAnd_f, kAnd_r, e_or, kOr_t, kOr_f, kOr_r, e_not, kNot_t, kNot_f, kNot_r, e_ifx, kIfx_t, kIfx_f, kIfx_r, e_chn, kCh1_v, kCh1_r, kCh2_v, kCh2_r, kChP_s, kChB_t, kChB_f, kCh3_v, kCh3_r, kCh4_s, e_nil, e_cons, kCs1_v, kCs1_r, kCs2_v, kCs2_r, e_tup, kTu1_v, kTu1_r, kTu2_0, kTu2_1, kTu2_2, kTu2_3, kTu2_4, kTu2_5, kTu2_6, kTu2_7, kTu2_8, e_lst, kLi1_v, kLi1_r, kLi2_0, kLi2_1, kLi2_2, kLi2_3, kLi2_4, kLi2_5, kLi2_6, kLi2_7, kLi2_8, datL, Option.map_some, e_call, kCa1_v, kCa1_r, kCa2_o, kCa2_r, e_blt, kBl1_v, kBl1_r, kBl2_s, pl_nil, pl_cons, kPL_s, e_rng1, kR1_v, e_rng2, kR2_v, kR2_r, kR2b_v, e_comp, kC1_v, kC1_r, cl_nil, cl_cons, kCL_y, kCL_n, s_step, kS1_s, kS2_t, kS2_f, kS3_v, t_seq, kSq_n, kSq_t, kSq_r, kSq_b, t_nop, t_asg, kAs1_v, kAs1_r, kAs2_s, t_par, kPa1_v, kPa2_v, par_d, t_ret, kRt_v, kRt_r, t_exp, kEx_v, kEx_r, t_ite, kIt_t, kIt_f, kIt_r, t_rse, t_brk, t_try, kTr_r, kTr_n, kTr_t, t_for, kF1_v, kF1_r, kF2_s, fl_nil, fl_cons, kFL_n, kFL_t, kFL_r, kFL_b, s_for, kSF_s, List.getElem?_cons_zero, List.getElem?_cons_succ, List.set_cons_zero, List.set_cons_succ, List.length_cons, List.length_nil, List.cons_append, List.nil_append, b_add, b_sub, b_mul, b_fdiv, b_mod, c_lt, c_le, c_gt, c_ge, c_eq, c_ne, c_eqi, c_nei, l_tup, l_list, l_abs, sq_t, sq_l, i_t1_0, i_l1_0, i_t2_0, i_l2_0, i_t2_1, i_l2_1, i_t3_0, i_l3_0, i_t3_1, i_l3_1, i_t3_2, i_l3_2, i_t4_0, i_l4_0, i_t4_1, i_l4_1, i_t4_2, i_l4_2, i_t4_3, i_l4_3, i_t5_0, i_l5_0, i_t5_1, i_l5_1, i_t5_2, i_l5_2, i_t5_3, i_l5_3, i_t5_4, i_l5_4, i_t6_0, i_l6_0, i_t6_1, i_l6_1, i_t6_2, i_l6_2, i_t6_3, i_l6_3, i_t6_4, i_l6_4, i_t6_5, i_l6_5, bt_nm, wp_nil, wp_cons, List.replicate, Nat.reduceSub, List.append_nil, Int.reduceLT, Int.reduceLE, Int.reduceBEq, Int.reduceSub, decide_true, decide_false, Bool.not_true, Bool.not_false, Bool.not_not, e_rz, e_rz1, e_ok, e_nx, isc_e, ln0, ln1, ln2, ln3, ln4, lt2, lt4, if_true, if_false, reduceIte, Bool.false_eq_true, bt_nil_t, bt_cons_t, bt_nil_l, bt_cons_l, Option.bind, e_okC, t_asgM, kM1_l, kM2_t, kM1_r, nr_nil, nr_d, nr_u, nr_r, bq_0, bq_0a, bl_1, bl_1z, bl_2, bl_2z, bl_21, bl_c1, bl_c1z, bl_c1y, bl_c1x, bl_c2, bl_c2z, bl_c21, g_1, g_2, g_21, s_1, s_2, s_21, t_apd2, kAp3_u, kAp4_t, kP1_v, kP1_r, kP2_l, kP3_v, kP3_r, e_ok1, e_nx1, e_ok2, e_rz2, e_ok1c, e_ok2c, kC2_u, kC3_t, e_dsel, kD1_v, kD2_v, e_mth, kMt1_v, kMt2_l, kMt3_v, kMt4_s, l_any4, l_all4, ist_s0, ist_i0, tr_bl, is_nn, is_bn, is_in, is_tn, is_ln, is_sn, nb0, nc0, nb1, nc1, nb2, nc2, nb3, nc3, nb4, nc4, nb5, nc5, nb6, nc6, nb7, nc7, nb8, nc8, nb9, nc9, nb10, nc10, nb11, nc11, nb12, nc12, nb13, nc13, nb14, nc14, nb15, nc15, nb16, nc16, nb17, nc17, nb18, nc18, nb19, nc19, nb20, nc20, nb21, nc21, nb22, nc22, nb23, nc23, nb24, nc24, nb25, nc25, nb26, nc26, nb27, nc27, nb28, nc28, nb29, nc29, nb30, nc30, nb31, nc31, nb32, nc32, nb33, nc33, nb34, nc34, nb35, nc35, nb36, nc36, nb37, nc37, nb38, nc38, nb39, nc39, nb40, nc40, r1_0, r1_1, r1_2, r1_3, r1_4, r1_5, r1_6, rgl_1, rgl_2, rgl_3, rgl_4, md_1, md_2, md_3, md_4, qt0, qt1, qt2, qt3, Int.reduceMul, Int.reduceNeg, Int.reduceAdd, Nat.add_zero, Nat.reduceAdd, Bool.true_and, Bool.and_true, Bool.false_and, Bool.and_false, Bool.or_false, Bool.false_or]
    · have d : decide ((M : Int) < 10) = false := decide_eq_false (by omega)
      rcases dv_is (a := a) (b := b) (p := p) 9 with h | ⟨j, -, -, h, -⟩
      · rw [h]
        simp only [lc_7, c8, d, e_var, kV_d, kV_r, kVr_l, kVr_f, e_arg, kA_d, kA_r, e_lit, pk_d, pk_r, kPr_l, kPr_f, outD_s, outB_s, e_bin, kBin1_v, kBin1_r, kBin2_v, kBin2_r, kBin3_s, e_cmp, kCmp1_v, kCmp1_r, kCmp2_v, kCmp2_r, kCmp3_s, e_idx, kIdx1_v, kIdx1_r, kIdx2_v, kIdx2_r, kIdx3_s, e_neg, kNeg1_v, kNeg1_r, e_tru, kTru1_v, kTru1_r, kNeg2_s, kTru2_s, e_isc, kIsc1_v, kIsc1_r, kIsc2_s, e_and, kAnd_t, kAnd_f, kAnd_r, e_or, kOr_t, kOr_f, kOr_r, e_not, kNot_t, kNot_f, kNot_r, e_ifx, kIfx_t, kIfx_f, kIfx_r, e_chn, kCh1_v, kCh1_r, kCh2_v, kCh2_r, kChP_s, kChB_t, kChB_f, kCh3_v, kCh3_r, kCh4_s, e_nil, e_cons, kCs1_v, kCs1_r, kCs2_v, kCs2_r, e_tup, kTu1_v, kTu1_r, kTu2_0, kTu2_1, kTu2_2, kTu2_3, kTu2_4, kTu2_5, kTu2_6, kTu2_7, kTu2_8, e_lst, kLi1_v, kLi1_r, kLi2_0, kLi2_1, kLi2_2, kLi2_3, kLi2_4, kLi2_5, kLi2_6, kLi2_7, kLi2_8, datL, Option.map_some, e_call, kCa1_v, kCa1_r, kCa2_o, kCa2_r, e_blt, kBl1_v, kBl1_r, kBl2_s, pl_nil, pl_cons, kPL_s, e_rng1, kR1_v, e_rng2, kR2_v, kR2_r, kR2b_v, e_comp, kC1_v, kC1_r, cl_nil, cl_cons, kCL_y, kCL_n, s_step, kS1_s, kS2_t, kS2_f, kS3_v, t_seq, kSq_n, kSq_t, kSq_r, kSq_b, t_nop, t_asg, kAs1_v, kAs1_r, kAs2_s, t_par, kPa1_v, kPa2_v, par_d, t_ret, kRt_v, kRt_r, t_exp, kEx_v, kEx_r, t_ite, kIt_t, kIt_f, kIt_r, t_rse, t_brk, t_try, kTr_r, kTr_n, kTr_t, t_for, kF1_v, kF1_r, kF2_s, fl_nil, fl_cons, kFL_n, kFL_t, kFL_r, kFL_b, s_for, kSF_s, List.getElem?_cons_zero, List.getElem?_cons_succ, List.set_cons_zero, List.set_cons_succ, List.length_cons, List.length_nil, List.cons_append, List.nil_append, b_add, b_sub, b_mul, b_fdiv, b_mod, c_lt, c_le, c_gt, c_ge, c_eq, c_ne, c_eqi, c_nei, l_tup, l_list, l_abs, sq_t, sq_l, i_t1_0, i_l1_0, i_t2_0, i_l2_0, i_t2_1, i_l2_1, i_t3_0, i_l3_0, i_t3_1, i_l3_1, i_t3_2, i_l3_2, i_t4_0, i_l4_0, i_t4_1, i_l4_1, i_t4_2, i_l4_2, i_t4_3, i_l4_3, i_t5_0, i_l5_0, i_t5_1, i_l5_1, i_t5_2, i_l5_2, i_t5_3, i_l5_3, i_t5_4, i_l5_4, i_t6_0, i_l6_0, i_t6_1, i_l6_1, i_t6_2, i_l6_2, i_t6_3, i_l6_3, i_t6_4, i_l6_4, i_t6_5, i_l6_5, bt_nm, wp_nil, wp_cons, List.replicate, Nat.reduceSub, List.append_nil, Int.reduceLT, Int.reduceLE, Int.reduceBEq, Int.reduceSub, decide_true, decide_false, Bool.not_true, Bool.not_false, Bool.not_not, e_rz, e_rz1, e_ok, e_nx, isc_e, ln0, ln1, ln2, ln3, ln4, lt2, lt4, if_true, if_false, reduceIte, Bool.false_eq_true, bt_nil_t, bt_cons_t, bt_nil_l, bt_cons_l, Option.bind, e_okC, t_asgM, kM1_l, kM2_t, kM1_r, nr_nil, nr_d, nr_u, nr_r, bq_0, bq_0a, bl_1, bl_1z, bl_2, bl_2z, bl_21, bl_c1, bl_c1z, bl_c1y, bl_c1x, bl_c2, bl_c2z, bl_c21, g_1, g_2, g_21, s_1, s_2, s_21, t_apd2, kAp3_u, kAp4_t, kP1_v, kP1_r, kP2_l, kP3_v, kP3_r, e_ok1, e_nx1, e_ok2, e_rz2, e_ok1c, e_ok2c, kC2_u, kC3_t, e_dsel, kD1_v, kD2_v, e_mth, kMt1_v, kMt2_l, kMt3_v, kMt4_s, l_any4, l_all4, ist_s0, ist_i0, tr_bl, is_nn, is_bn, is_in, is_tn, is_ln, is_sn, nb0, nc0, nb1, nc1, nb2, nc2, nb3, nc3, nb4, nc4, nb5, nc5, nb6, nc6, nb7, nc7, nb8, nc8, nb9, nc9, nb10, nc10, nb11, nc11, nb12, nc12, nb13, nc13, nb14, nc14, nb15, nc15, nb16, nc16, nb17, nc17, nb18, nc18, nb19, nc19, nb20, nc20, nb21, nc21, nb22, nc22, nb23, nc23, nb24, nc24, nb25, nc25, nb26, nc26, nb27, nc27, nb28, nc28, nb29, nc29, nb30, nc30, nb31, nc31, nb32, nc32, nb33, nc33, nb34, nc34, nb35, nc35, nb36, nc36, nb37, nc37, nb38, nc38, nb39, nc39, nb40, nc40, r1_0, r1_1, r1_2, r1_3, r1_4, r1_5, r1_6, rgl_1, rgl_2, rgl_3, rgl_4, md_1, md_2, md_3, md_4, qt0, qt1, qt2, qt3, Int.reduceMul, Int.reduceNeg, Int.reduceAdd, Nat.add_zero, Nat.reduceAdd, Bool.true_and, Bool.and_true, Bool.false_and, Bool.and_false, Bool.or_false, Bool.false_or]
      · have hm := dv_more h (M - 9)
        rw [show 9 + (M - 9) = M by omega] at hm
        rw [hm] at tM
        rw [h]
        have nj : cmpD .ne (.int (j : Int)) (.int (j : Int)) = some false := by show some (!((j : Int) == (j : Int))) = _; rw [BEq.rfl]; rfl
        simp only [lc_7, c8, d, tM, nj, e_var, kV_d, kV_r, kVr_l, kVr_f, e_arg, kA_d, kA_r, e_lit, pk_d, pk_r, kPr_l, kPr_f, outD_s, outB_s, e_bin, kBin1_v, kBin1_r, kBin2_v, kBin2_r, kBin3_s, e_cmp, kCmp1_v, kCmp1_r, kCmp2_v, kCmp2_r, kCmp3_s, e_idx, kIdx1_v, kIdx1_r, kIdx2_v, kIdx2_r, kIdx3_s, e_neg, kNeg1_v, kNeg1_r, e_tru, kTru1_v, kTru1_r, kNeg2_s, kTru2_s, e_isc, kIsc1_v, kIsc1_r, kIsc2_s, e_and, kAnd_t, kAnd_f, kAnd_r, e_or, kOr_t, kOr_f, kOr_r, e_not, kNot_t, kNot_f, kNot_r, e_ifx, kIfx_t, kIfx_f, kIfx_r, e_chn, kCh1_v, kCh1_r, kCh2_v, kCh2_r, kChP_s, kChB_t, kChB_f, kCh3_v, kCh3_r, kCh4_s, e_nil, e_cons, kCs1_v, kCs1_r, kCs2_v, kCs2_r, e_tup, kTu1_v, kTu1_r, kTu2_0, kTu2_1, kTu2_2, kTu2_3, kTu2_4, kTu2_5, kTu2_6, kTu2_7, kTu2_8, e_lst, kLi1_v, kLi1_r, kLi2_0, kLi2_1, kLi2_2, kLi2_3, kLi2_4, kLi2_5, kLi2_6, kLi2_7, kLi2_8, datL, Option.map_some, e_call, kCa1_v, kCa1_r, kCa2_o, kCa2_r, e_blt, kBl1_v, kBl1_r, kBl2_s, pl_nil, pl_cons, kPL_s, e_rng1, kR1_v, e_rng2, kR2_v, kR2_r, kR2b_v, e_comp, kC1_v, kC1_r, cl_nil, cl_cons, kCL_y, kCL_n, s_step, kS1_s, kS2_t, kS2_f, kS3_v, t_seq, kSq_n, kSq_t, kSq_r, kSq_b, t_nop, t_asg, kAs1_v, kAs1_r, kAs2_s, t_par, kPa1_v, kPa2_v, par_d, t_ret, kRt_v, kRt_r, t_exp, kEx_v, kEx_r, t_ite, kIt_t, kIt_f, kIt_r, t_rse, t_brk, t_try, kTr_r, kTr_n, kTr_t, t_for, kF1_v, kF1_r, kF2_s, fl_nil, fl_cons, kFL_n, kFL_t, kFL_r, kFL_b, s_for, kSF_s, List.getElem?_cons_zero, List.getElem?_cons_succ, List.set_cons_zero, List.set_cons_succ, List.length_cons, List.length_nil, List.cons_append, List.nil_append, b_add, b_sub, b_mul, b_fdiv, b_mod, c_lt, c_le, c_gt, c_ge, c_eq, c_ne, c_eqi, c_nei, l_tup, l_list, l_abs, sq_t, sq_l, i_t1_0, i_l1_0, i_t2_0, i_l2_0, i_t2_1, i_l2_1, i_t3_0, i_l3_0, i_t3_1, i_l3_1, i_t3_2, i_l3_2, i_t4_0, i_l4_0, i_t4_1, i_l4_1, i_t4_2, i_l4_2, i_t4_3, i_l4_3, i_t5_0, i_l5_0, i_t5_1, i_l5_1, i_t5_2, i_l5_2, i_t5_3, i_l5_3, i_t5_4, i_l5_4, i_t6_0, i_l6_0, i_t6_1, i_l6_1, i_t6_2, i_l6_2, i_t6_3, i_l6_3, i_t6_4, i_l6_4, i_t6_5, i_l6_5, bt_nm, wp_nil, wp_cons, List.replicate, Nat.reduceSub, List.append_nil, Int.reduceLT, Int.reduceLE, Int.reduceBEq, Int.reduceSub, decide_true, decide_false, Bool.not_true, Bool.not_false, Bool.not_not, e_rz, e_rz1, e_ok, e_nx, isc_e, ln0, ln1, ln2, ln3, ln4, lt2, lt4, if_true, if_false, reduceIte, Bool.false_eq_true, bt_nil_t, bt_cons_t, bt_nil_l, bt_cons_l, Option.bind, e_okC, t_asgM, kM1_l, kM2_t, kM1_r, nr_nil, nr_d, nr_u, nr_r, bq_0, bq_0a, bl_1, bl_1z, bl_2, bl_2z, bl_21, bl_c1, bl_c1z, bl_c1y, bl_c1x, bl_c2, bl_c2z, bl_c21, g_1, g_2, g_21, s_1, s_2, s_21, t_apd2, kAp3_u, kAp4_t, kP1_v, kP1_r, kP2_l, kP3_v, kP3_r, e_ok1, e_nx1, e_ok2, e_rz2, e_ok1c, e_ok2c, kC2_u, kC3_t, e_dsel, kD1_v, kD2_v, e_mth, kMt1_v, kMt2_l, kMt3_v, kMt4_s, l_any4, l_all4, ist_s0, ist_i0, tr_bl, is_nn, is_bn, is_in, is_tn, is_ln, is_sn, nb0, nc0, nb1, nc1, nb2, nc2, nb3, nc3, nb4, nc4, nb5, nc5, nb6, nc6, nb7, nc7, nb8, nc8, nb9, nc9, nb10, nc10, nb11, nc11, nb12, nc12, nb13, nc13, nb14, nc14, nb15, nc15, nb16, nc16, nb17, nc17, nb18, nc18, nb19, nc19, nb20, nc20, nb21, nc21, nb22, nc22, nb23, nc23, nb24, nc24, nb25, nc25, nb26, nc26, nb27, nc27, nb28, nc28, nb29, nc29, nb30, nc30, nb31, nc31, nb32, nc32, nb33, nc33, nb34, nc34, nb35, nc35, nb36, nc36, nb37, nc37, nb38, nc38, nb39, nc39, nb40, nc40, r1_0, r1_1, r1_2, r1_3, r1_4, r1_5, r1_6, rgl_1, rgl_2, rgl_3, rgl_4, md_1, md_2, md_3, md_4, qt0, qt1, qt2, qt3, Int.reduceMul, Int.reduceNeg, Int.reduceAdd, Nat.add_zero, Nat.reduceAdd, Bool.true_and, Bool.and_true, Bool.false_and, Bool.and_false, Bool.or_false, Bool.false_or]
  rw [seq_nx v7]
  have v8 : evT LW c8 1 lc_8 [.d (.scr ns), .ref 0, .d p.t, .d g.t, .d (.lst [.tup [.int 0, .int 1, .int 0, .int 0], .tup [.int 0, .int 0, .int 1, .int 0], .tup [.int 0, .int 1, .int 1, .int 0], .tup [.int 0, .int 1, .int (-1), .int 0], .tup [.int 1, .int 0, .int 0, .int (-1)], .tup [.int 0, .int 3, .int 4, .int 0], .tup [.int 0, .int 1, .int 0, .int (-1)]]), .d a.t, .d b.t, .d (.int (M : Int)), .d (dv a b p K), .d (itQ a b p K).t, t10] [.live (.lst xs3)] = some (.nx, [.d (.scr ns), .ref 0, .d p.t, .d g.t, .d (.lst [.tup [.int 0, .int 1, .int 0, .int 0], .tup [.int 0, .int 0, .int 1, .int 0], .tup [.int 0, .int 1, .int 1, .int 0], .tup [.int 0, .int 1, .int (-1), .int 0], .tup [.int 1, .int 0, .int 0, .int (-1)], .tup [.int 0, .int 3, .int 4, .int 0], .tup [.int 0, .int 1, .int 0, .int (-1)]]), .d a.t, .d b.t, .d (.int (M : Int)), .d (dv a b p K), .d (itQ a b p K).t, t10], [.live (.lst xs3)]) := by
    rcases dv_is (a := a) (b := b) (p := p) K with h | ⟨j, j1, j2, h, h4⟩
    · rw [h]
      simp only [lc_8, c8, e_var, kV_d, kV_r, kVr_l, kVr_f, e_arg, kA_d, kA_r, e_lit, pk_d, pk_r, kPr_l, kPr_f, outD_s, outB_s, e_bin, kBin1_v, kBin1_r, kBin2_v, kBin2_r, kBin3_s, e_cmp, kCmp1_v, kCmp1_r, kCmp2_v, kCmp2_r, kCmp3_s, e_idx, kIdx1_v, kIdx1_r, kIdx2_v, kIdx2_r, kIdx3_s, e_neg, kNeg1_v, kNeg1_r, e_tru, kTru1_v, kTru1_r, kNeg2_s, kTru2_s, e_isc, kIsc1_v, kIsc1_r, kIsc2_s, e_and, kAnd_t, kAnd_f, kAnd_r, e_or, kOr_t, kOr_f, kOr_r, e_not, kNot_t, kNot_f, kNot_r, e_ifx, kIfx_t, kIfx_f, kIfx_r, e_chn, kCh1_v, kCh1_r, kCh2_v, kCh2_r, kChP_s, kChB_t, kChB_f, kCh3_v, kCh3_r, kCh4_s, e_nil, e_cons, kCs1_v, kCs1_r, kCs2_v, kCs2_r, e_tup, kTu1_v, kTu1_r, kTu2_0, kTu2_1, kTu2_2, kTu2_3, kTu2_4, kTu2_5, kTu2_6, kTu2_7, kTu2_8, e_lst, kLi1_v, kLi1_r, kLi2_0, kLi2_1, kLi2_2, kLi2_3, kLi2_4, kLi2_5, kLi2_6, kLi2_7, kLi2_8, datL, Option.map_some, e_call, kCa1_v, kCa1_r, kCa2_o, kCa2_r, e_blt, kBl1_v, kBl1_r, kBl2_s, pl_nil, pl_cons, kPL_s, e_rng1, kR1_v, e_rng2, kR2_v, kR2_r, kR2b_v, e_comp, kC1_v, kC1_r, cl_nil, cl_cons, kCL_y, kCL_n, s_step, kS1_s, kS2_t, kS2_f, kS3_v, t_seq, kSq_n, kSq_t, kSq_r, kSq_b, t_nop, t_asg, kAs1_v, kAs1_r, kAs2_s, t_par, kPa1_v, kPa2_v, par_d, t_ret, kRt_v, kRt_r, t_exp, kEx_v, kEx_r, t_ite, kIt_t, kIt_f, kIt_r, t_rse, t_brk, t_try, kTr_r, kTr_n, kTr_t, t_for, kF1_v, kF1_r, kF2_s, fl_nil, fl_cons, kFL_n, kFL_t, kFL_r, kFL_b, s_for, kSF_s, List.getElem?_cons_zero, List.getElem?_cons_succ, List.set_cons_zero, List.set_cons_succ, List.length_cons, List.length_nil, List.cons_append, List.nil_append, b_add, b_sub, b_mul, b_fdiv, b_mod, c_lt, c_le, c_gt, c_ge, c_eq, c_ne, c_eqi, c_nei, l_tup, l_list, l_abs, sq_t, sq_l, i_t1_0, i_l1_0, i_t2_0, i_l2_0, i_t2_1, i_l2_1, i_t3_0, i_l3_0, i_t3_1, i_l3_1, i_t3_2, i_l3_2, i_t4_0, i_l4_0, i_t4_1, i_l4_1, i_t4_2, i_l4_2, i_t4_3, i_l4_3, i_t5_0, i_l5_0, i_t5_1, i_l5_1, i_t5_2, i_l5_2, i_t5_3, i_l5_3, i_t5_4, i_l5_4, i_t6_0, i_l6_0, i_t6_1, i_l6_1, i_t6_2, i_l6_2, i_t6_3, i_l6_3, i_t6_4, i_l6_4, i_t6_5, i_l6_5, bt_nm, wp_nil, wp_cons, List.replicate, Nat.reduceSub, List.append_nil, Int.reduceLT, Int.reduceLE, Int.reduceBEq, Int.reduceSub, decide_true, decide_false, Bool.not_true, Bool.not_false, Bool.not_not, e_rz, e_rz1, e_ok, e_nx, isc_e, ln0, ln1, ln2, ln3, ln4, lt2, lt4, if_true, if_false, reduceIte, Bool.false_eq_true, bt_nil_t, bt_cons_t, bt_nil_l, bt_cons_l, Option.bind, e_okC, t_asgM, kM1_l, kM2_t, kM1_r, nr_nil, nr_d, nr_u, nr_r, bq_0, bq_0a, bl_1, bl_1z, bl_2, bl_2z, bl_21, bl_c1, bl_c1z, bl_c1y, bl_c1x, bl_c2, bl_c2z, bl_c21, g_1, g_2, g_21, s_1, s_2, s_21, t_apd2, kAp3_u, kAp4_t, kP1_v, kP1_r, kP2_l, kP3_v, kP3_r, e_ok1, e_nx1, e_ok2, e_rz2, e_ok1c, e_ok2c, kC2_u, kC3_t, e_dsel, kD1_v, kD2_v, e_mth, kMt1_v, kMt2_l, kMt3_v, kMt4_s, l_any4, l_all4, ist_s0, ist_i0, tr_bl, is_nn, is_bn, is_in, is_tn, is_ln, is_sn, nb0, nc0, nb1, nc1, nb2, nc2, nb3, nc3, nb4, nc4, nb5, nc5, nb6, nc6, nb7, nc7, nb8, nc8, nb9, nc9, nb10, nc10, nb11, nc11, nb12, nc12, nb13, nc13, nb14, nc14, nb15, nc15, nb16, nc16, nb17, nc17, nb18, nc18, nb19, nc19, nb20, nc20, nb21, nc21, nb22, nc22, nb23, nc23, nb24, nc24, nb25, nc25, nb26, nc26, nb27, nc27, nb28, nc28, nb29, nc29, nb30, nc30, nb31, nc31, nb32, nc32, nb33, nc33, nb34, nc34, nb35, nc35, nb36, nc36, nb37, nc37, nb38, nc38, nb39, nc39, nb40, nc40, r1_0, r1_1, r1_2, r1_3, r1_4, r1_5, r1_6, rgl_1, rgl_2, rgl_3, rgl_4, md_1, md_2, md_3, md_4, qt0, qt1, qt2, qt3, Int.reduceMul, Int.reduceNeg, Int.reduceAdd, Nat.add_zero, Nat.reduceAdd, Bool.true_and, Bool.and_true, Bool.false_and, Bool.and_false, Bool.or_false, Bool.false_or]
    · have tj := to_ok2 (n := 16) (v_cb ha hb hp (n := 13) (M := j - 1) (S := [.live (.lst xs3)]) (by omega))
      rw [h4] at tj
      have hj : ((j - 1 : Nat) : Int) = (j : Int) - 1 := by omega
      rw [hj] at tj
      rw [h]
      simp only [lc_8, c8, tj, e_var, kV_d, kV_r, kVr_l, kVr_f, e_arg, kA_d, kA_r, e_lit, pk_d, pk_r, kPr_l, kPr_f, outD_s, outB_s, e_bin, kBin1_v, kBin1_r, kBin2_v, kBin2_r, kBin3_s, e_cmp, kCmp1_v, kCmp1_r, kCmp2_v, kCmp2_r, kCmp3_s, e_idx, kIdx1_v, kIdx1_r, kIdx2_v, kIdx2_r, kIdx3_s, e_neg, kNeg1_v, kNeg1_r, e_tru, kTru1_v, kTru1_r, kNeg2_s, kTru2_s, e_isc, kIsc1_v, kIsc1_r, kIsc2_s, e_and, kAnd_t, kAnd_f, kAnd_r, e_or, kOr_t, kOr_f, kOr_r, e_not, kNot_t, kNot_f, kNot_r, e_ifx, kIfx_t, kIfx_f, kIfx_r, e_chn, kCh1_v, kCh1_r, kCh2_v, kCh2_r, kChP_s, kChB_t, kChB_f, kCh3_v, kCh3_r, kCh4_s, e_nil, e_cons, kCs1_v, kCs1_r, kCs2_v, kCs2_r, e_tup, kTu1_v, kTu1_r, kTu2_0, kTu2_1, kTu2_2, kTu2_3, kTu2_4, kTu2_5, kTu2_6, kTu2_7, kTu2_8, e_lst, kLi1_v, kLi1_r, kLi2_0, kLi2_1, kLi2_2, kLi2_3, kLi2_4, kLi2_5, kLi2_6, kLi2_7, kLi2_8, datL, Option.map_some, e_call, kCa1_v, kCa1_r, kCa2_o, kCa2_r, e_blt, kBl1_v, kBl1_r, kBl2_s, pl_nil, pl_cons, kPL_s, e_rng1, kR1_v, e_rng2, kR2_v, kR2_r, kR2b_v, e_comp, kC1_v, kC1_r, cl_nil, cl_cons, kCL_y, kCL_n, s_step, kS1_s, kS2_t, kS2_f, kS3_v, t_seq, kSq_n, kSq_t, kSq_r, kSq_b, t_nop, t_asg, kAs1_v, kAs1_r, kAs2_s, t_par, kPa1_v, kPa2_v, par_d, t_ret, kRt_v, kRt_r, t_exp, kEx_v, kEx_r, t_ite, kIt_t, kIt_f, kIt_r, t_rse, t_brk, t_try, kTr_r, kTr_n, kTr_t, t_for, kF1_v, kF1_r, kF2_s, fl_nil, fl_cons, kFL_n, kFL_t, kFL_r, kFL_b, s_for, kSF_s, List.getElem?_cons_zero, List.getElem?_cons_succ, List.set_cons_zero, List.set_cons_succ, List.length_cons, List.length_nil, List.cons_append, List.nil_append, b_add, b_sub, b_mul, b_fdiv, b_mod, c_lt, c_le, c_gt, c_ge, c_eq, c_ne, c_eqi, c_nei, l_tup, l_list, l_abs, sq_t, sq_l, i_t1_0, i_l1_0, i_t2_0, i_l2_0, i_t2_1, i_l2_1, i_t3_0, i_l3_0, i_t3_1, i_l3_1, i_t3_2, i_l3_2, i_t4_0, i_l4_0, i_t4_1, i_l4_1, i_t4_2, i_l4_2, i_t4_3, i_l4_3, i_t5_0, i_l5_0, i_t5_1, i_l5_1, i_t5_2, i_l5_2, i_t5_3, i_l5_3, i_t5_4, i_l5_4, i_t6_0, i_l6_0, i_t6_1, i_l6_1, i_t6_2, i_l6_2, i_t6_3, i_l6_3, i_t6_4, i_l6_4, i_t6_5, i_l6_5, bt_nm, wp_nil, wp_cons, List.replicate, Nat.reduceSub, List.append_nil, Int.reduceLT, Int.reduceLE, Int.reduceBEq, Int.reduceSub, decide_true, decide_false, Bool.not_true, Bool.not_false, Bool.not_not, e_rz, e_rz1, e_ok, e_nx, isc_e, ln0, ln1, ln2, ln3, ln4, lt2, lt4, if_true, if_false, reduceIte, Bool.false_eq_true, bt_nil_t, bt_cons_t, bt_nil_l, bt_cons_l, Option.bind, e_okC, t_asgM, kM1_l, kM2_t, kM1_r, nr_nil, nr_d, nr_u, nr_r, bq_0, bq_0a, bl_1, bl_1z, bl_2, bl_2z, bl_21, bl_c1, bl_c1z, bl_c1y, bl_c1x, bl_c2, bl_c2z, bl_c21, g_1, g_2, g_21, s_1, s_2, s_21, t_apd2, kAp3_u, kAp4_t, kP1_v, kP1_r, kP2_l, kP3_v, kP3_r, e_ok1, e_nx1, e_ok2, e_rz2, e_ok1c, e_ok2c, kC2_u, kC3_t, e_dsel, kD1_v, kD2_v, e_mth, kMt1_v, kMt2_l, kMt3_v, kMt4_s, l_any4, l_all4, ist_s0, ist_i0, tr_bl, is_nn, is_bn, is_in, is_tn, is_ln, is_sn, nb0, nc0, nb1, nc1, nb2, nc2, nb3, nc3, nb4, nc4, nb5, nc5, nb6, nc6, nb7, nc7, nb8, nc8, nb9, nc9, nb10, nc10, nb11, nc11, nb12, nc12, nb13, nc13, nb14, nc14, nb15, nc15, nb16, nc16, nb17, nc17, nb18, nc18, nb19, nc19, nb20, nc20, nb21, nc21, nb22, nc22, nb23, nc23, nb24, nc24, nb25, nc25, nb26, nc26, nb27, nc27, nb28, nc28, nb29, nc29, nb30, nc30, nb31, nc31, nb32, nc32, nb33, nc33, nb34, nc34, nb35, nc35, nb36, nc36, nb37, nc37, nb38, nc38, nb39, nc39, nb40, nc40, r1_0, r1_1, r1_2, r1_3, r1_4, r1_5, r1_6, rgl_1, rgl_2, rgl_3, rgl_4, md_1, md_2, md_3, md_4, qt0, qt1, qt2, qt3, Int.reduceMul, Int.reduceNeg, Int.reduceAdd, Nat.add_zero, Nat.reduceAdd, Bool.true_and, Bool.and_true, Bool.false_and, Bool.and_false, Bool.or_false, Bool.false_or]
  rw [seq_nx v8]
  have ml : binD .mul (.lst [.tup [.str "refused", .str "number"]]) (.int 2) = some (.lst [.tup [.str "refused", .str "number"], .tup [.str "refused", .str "number"]]) := by kernel_rfl
  have le : cmpD .eq (.lst [.tup [.str "refused", .str "number"], .tup [.str "refused", .str "number"]]) (.lst [.tup [.str "refused", .str "number"], .tup [.str "refused", .str "number"]]) = some true := by kernel_rfl
  simp only [lc_9, c8, tn, tp, ml, le, e_var, kV_d, kV_r, kVr_l, kVr_f, e_arg, kA_d, kA_r, e_lit, pk_d, pk_r, kPr_l, kPr_f, outD_s, outB_s, e_bin, kBin1_v, kBin1_r, kBin2_v, kBin2_r, kBin3_s, e_cmp, kCmp1_v, kCmp1_r, kCmp2_v, kCmp2_r, kCmp3_s, e_idx, kIdx1_v, kIdx1_r, kIdx2_v, kIdx2_r, kIdx3_s, e_neg, kNeg1_v, kNeg1_r, e_tru, kTru1_v, kTru1_r, kNeg2_s, kTru2_s, e_isc, kIsc1_v, kIsc1_r, kIsc2_s, e_and, kAnd_t, kAnd_f, kAnd_r, e_or, kOr_t, kOr_f, kOr_r, e_not, kNot_t, kNot_f, kNot_r, e_ifx, kIfx_t, kIfx_f, kIfx_r, e_chn, kCh1_v, kCh1_r, kCh2_v, kCh2_r, kChP_s, kChB_t, kChB_f, kCh3_v, kCh3_r, kCh4_s, e_nil, e_cons, kCs1_v, kCs1_r, kCs2_v, kCs2_r, e_tup, kTu1_v, kTu1_r, kTu2_0, kTu2_1, kTu2_2, kTu2_3, kTu2_4, kTu2_5, kTu2_6, kTu2_7, kTu2_8, e_lst, kLi1_v, kLi1_r, kLi2_0, kLi2_1, kLi2_2, kLi2_3, kLi2_4, kLi2_5, kLi2_6, kLi2_7, kLi2_8, datL, Option.map_some, e_call, kCa1_v, kCa1_r, kCa2_o, kCa2_r, e_blt, kBl1_v, kBl1_r, kBl2_s, pl_nil, pl_cons, kPL_s, e_rng1, kR1_v, e_rng2, kR2_v, kR2_r, kR2b_v, e_comp, kC1_v, kC1_r, cl_nil, cl_cons, kCL_y, kCL_n, s_step, kS1_s, kS2_t, kS2_f, kS3_v, t_seq, kSq_n, kSq_t, kSq_r, kSq_b, t_nop, t_asg, kAs1_v, kAs1_r, kAs2_s, t_par, kPa1_v, kPa2_v, par_d, t_ret, kRt_v, kRt_r, t_exp, kEx_v, kEx_r, t_ite, kIt_t, kIt_f, kIt_r, t_rse, t_brk, t_try, kTr_r, kTr_n, kTr_t, t_for, kF1_v, kF1_r, kF2_s, fl_nil, fl_cons, kFL_n, kFL_t, kFL_r, kFL_b, s_for, kSF_s, List.getElem?_cons_zero, List.getElem?_cons_succ, List.set_cons_zero, List.set_cons_succ, List.length_cons, List.length_nil, List.cons_append, List.nil_append, b_add, b_sub, b_mul, b_fdiv, b_mod, c_lt, c_le, c_gt, c_ge, c_eq, c_ne, c_eqi, c_nei, l_tup, l_list, l_abs, sq_t, sq_l, i_t1_0, i_l1_0, i_t2_0, i_l2_0, i_t2_1, i_l2_1, i_t3_0, i_l3_0, i_t3_1, i_l3_1, i_t3_2, i_l3_2, i_t4_0, i_l4_0, i_t4_1, i_l4_1, i_t4_2, i_l4_2, i_t4_3, i_l4_3, i_t5_0, i_l5_0, i_t5_1, i_l5_1, i_t5_2, i_l5_2, i_t5_3, i_l5_3, i_t5_4, i_l5_4, i_t6_0, i_l6_0, i_t6_1, i_l6_1, i_t6_2, i_l6_2, i_t6_3, i_l6_3, i_t6_4, i_l6_4, i_t6_5, i_l6_5, bt_nm, wp_nil, wp_cons, List.replicate, Nat.reduceSub, List.append_nil, Int.reduceLT, Int.reduceLE, Int.reduceBEq, Int.reduceSub, decide_true, decide_false, Bool.not_true, Bool.not_false, Bool.not_not, e_rz, e_rz1, e_ok, e_nx, isc_e, ln0, ln1, ln2, ln3, ln4, lt2, lt4, if_true, if_false, reduceIte, Bool.false_eq_true, bt_nil_t, bt_cons_t, bt_nil_l, bt_cons_l, Option.bind, e_okC, t_asgM, kM1_l, kM2_t, kM1_r, nr_nil, nr_d, nr_u, nr_r, bq_0, bq_0a, bl_1, bl_1z, bl_2, bl_2z, bl_21, bl_c1, bl_c1z, bl_c1y, bl_c1x, bl_c2, bl_c2z, bl_c21, g_1, g_2, g_21, s_1, s_2, s_21, t_apd2, kAp3_u, kAp4_t, kP1_v, kP1_r, kP2_l, kP3_v, kP3_r, e_ok1, e_nx1, e_ok2, e_rz2, e_ok1c, e_ok2c, kC2_u, kC3_t, e_dsel, kD1_v, kD2_v, e_mth, kMt1_v, kMt2_l, kMt3_v, kMt4_s, l_any4, l_all4, ist_s0, ist_i0, tr_bl, is_nn, is_bn, is_in, is_tn, is_ln, is_sn, nb0, nc0, nb1, nc1, nb2, nc2, nb3, nc3, nb4, nc4, nb5, nc5, nb6, nc6, nb7, nc7, nb8, nc8, nb9, nc9, nb10, nc10, nb11, nc11, nb12, nc12, nb13, nc13, nb14, nc14, nb15, nc15, nb16, nc16, nb17, nc17, nb18, nc18, nb19, nc19, nb20, nc20, nb21, nc21, nb22, nc22, nb23, nc23, nb24, nc24, nb25, nc25, nb26, nc26, nb27, nc27, nb28, nc28, nb29, nc29, nb30, nc30, nb31, nc31, nb32, nc32, nb33, nc33, nb34, nc34, nb35, nc35, nb36, nc36, nb37, nc37, nb38, nc38, nb39, nc39, nb40, nc40, r1_0, r1_1, r1_2, r1_3, r1_4, r1_5, r1_6, rgl_1, rgl_2, rgl_3, rgl_4, md_1, md_2, md_3, md_4, qt0, qt1, qt2, qt3, Int.reduceMul, Int.reduceNeg, Int.reduceAdd, Nat.add_zero, Nat.reduceAdd, Bool.true_and, Bool.and_true, Bool.false_and, Bool.and_false, Bool.or_false, Bool.false_or]
  rfl
end Lq

namespace Lq
open PySem PySem.Spec PyProof.Rows L2 Cm

def q_0 : T := (.asgM 1 0 (.lst .nil))
def q_1 : T := (.asg (.nm 2) (.call 21 (.cons (.arg 0) (.cons (.arg 1) .nil))))
def q_2 : T := (.asg (.nm 3) (.call 21 (.cons (.arg 0) (.cons (.arg 1) .nil))))
def q_3 : T := (.asg (.nm 4) (.call 17 (.cons (.arg 0) (.cons (.arg 1) (.cons (.lst (.cons (.call 21 (.cons (.arg 0) (.cons (.arg 1) .nil))) (.cons (.call 7 (.cons (.arg 2) (.cons (.arg 3) .nil))) (.cons (.call 7 (.cons (.arg 2) (.cons (.arg 3) .nil))) (.cons (.var 2) .nil))))) .nil)))))
def q_4 : T := (.asg (.nm 5) (.call 24 (.cons (.bin .mul (.call 19 (.cons (.arg 2) (.cons (.arg 2) .nil))) (.call 19 (.cons (.arg 4) (.cons (.arg 4) .nil)))) .nil)))
def q_5 : T := (.asg (.nm 6) (.call 22 (.cons (.lit (.int 0)) (.cons (.arg 2) (.cons (.arg 4) (.cons (.lit (.int 0)) (.cons (.lit (.int 0)) .nil)))))))
def q_6 : T := (.ite (.or (.cmp .eq (.arg 2) (.arg 4)) (.isc (.arg 5) .non true)) (.ite (.cmp .ne (.arg 6) (.tup (.cons (.lit (.str "refused")) (.cons (.lit (.str "none")) .nil)))) (.ret (.lit (.bl false))) .nop) (.seq (.ite (.or (.cmp .ne (.arg 6) (.blt .srt (.cons (.arg 6) .nil))) (.cmp .ne (.blt .nset (.cons (.arg 6) .nil)) (.blt .len (.cons (.arg 6) .nil)))) (.ret (.lit (.bl false))) .nop) (.seq (.ite (.cmp .ne (.comp [9] (.nm 9) (.var 6) (.or (.cmp .ne (.call 7 (.cons (.arg 2) (.cons (.arg 9) .nil))) (.arg 4)) (.cmp .ne (.call 7 (.cons (.arg 4) (.cons (.arg 9) .nil))) (.arg 2))) (.var 9)) (.lst .nil)) (.ret (.lit (.bl false))) .nop) (.seq (.ite (.cmp .ne (.blt .len (.cons (.arg 6) .nil)) (.ifx (.cmp .eq (.call 8 (.cons (.arg 2) (.cons (.arg 4) .nil))) (.lit (.str "cross"))) (.lit (.int 2)) (.lit (.int 1)))) (.ret (.lit (.bl false))) .nop) (.seq (.ite (.and (.cmp .eq (.blt .len (.cons (.arg 6) .nil)) (.lit (.int 2))) (.not (.tru (.call 10 (.cons (.idx (.arg 6) (.lit (.int 0))) (.cons (.idx (.arg 6) (.lit (.int 1))) .nil)))))) (.ret (.lit (.bl false))) .nop) (.ite (.and (.cmp .eq (.arg 4) (.call 7 (.cons (.arg 2) (.cons (.arg 3) .nil)))) (.cmp .nin (.arg 3) (.arg 6))) (.ret (.lit (.bl false))) .nop))))))
def q_7 : T := (.asg (.nm 7) (.comp [10] (.nm 10) (.rng1 (.call 16 (.cons (.arg 0) (.cons (.arg 1) (.cons (.lit (.int 5)) .nil))))) (.lit (.bl true)) (.call 21 (.cons (.arg 0) (.cons (.arg 1) .nil)))))
def q_8 : T := (.asg (.nm 8) (.var 2))
def q_9 : T := (.for (.nm 9) (.var 7) lhB)
def q_10 : T := (.ite (.cmp .ne (.call 22 (.cons (.lit (.int 1)) (.cons (.arg 2) (.cons (.arg 7) (.cons (.lit (.int 0)) (.cons (.lit (.int 0)) .nil)))))) (.arg 8)) (.ret (.lit (.bl false))) .nop)
def q_11 : T := (.ret (.call 25 (.cons (.arg 0) (.cons (.arg 1) (.cons (.arg 2) (.cons (.arg 3) .nil))))))
theorem law_eq : i_law = (.seq q_0 (.seq q_1 (.seq q_2 (.seq q_3 (.seq q_4 (.seq q_5 (.seq q_6 (.seq q_7 (.seq q_8 (.seq q_9 (.seq q_10 q_11))))))))))) := rfl
abbrev c9 : Ce := callE LW Pr 19
theorem eq_self {x : D} (h : pln 60 x = true) (h2 : deq x x = true) : cmpD .eq x x = some true := by rw [c_eq h h, h2]
theorem ne_self {x : D} (h : pln 60 x = true) (h2 : deq x x = true) : cmpD .ne x x = some false := by rw [c_ne h h, h2]; rfl
theorem dq_t {p : Q} : deq p.t p.t = true := by simp [Q.t, deq, deqL]
theorem nq {p : Q} : cmpD .ne p.t p.t = some false := ne_self rfl dq_t
theorem eqq {p : Q} : cmpD .eq p.t p.t = some true := eq_self rfl dq_t
theorem dq_iff {p q : Q} : deq p.t q.t = true ↔ p = q := by
  constructor
  · intro h
    simp only [Q.t, deq, deqL, Bool.and_true, Bool.and_eq_true, beq_iff_eq] at h
    exact Q.ext h.1 h.2.1 h.2.2.1 h.2.2.2
  · intro h
    rw [h]
    exact dq_t
theorem rf_ne : cmpD .ne (.tup [.str "refused", .str "none"]) (.tup [.str "refused", .str "none"]) = some false := by kernel_rfl
theorem ne_nil : cmpD .ne (.lst []) (.lst []) = some false := by kernel_rfl
theorem n1 {a : Q} : cmpD .ne (.lst [a.t]) (.lst [a.t]) = some false := ne_self rfl (by simp [Q.t, deq, deqL])
theorem n2 {a b : Q} : cmpD .ne (.lst [a.t, b.t]) (.lst [a.t, b.t]) = some false := ne_self rfl (by simp [Q.t, deq, deqL])
theorem in1 {a : Q} : cmpD .nin a.t (.lst [a.t]) = some false := by
  show (if (pln 50 a.t && pln 50 (.lst [a.t])) = true then some ([a.t].any fun z => deq z a.t) else none).map (fun b => !b) = _
  rw [if_pos (show (pln 50 a.t && pln 50 (.lst [a.t])) = true from rfl)]
  simp only [List.any_cons, dq_t, Bool.true_or]
  rfl
theorem in2 {a b g : Q} (h : g = a ∨ g = b) : cmpD .nin g.t (.lst [a.t, b.t]) = some false := by
  show (if (pln 50 g.t && pln 50 (.lst [a.t, b.t])) = true then some ([a.t, b.t].any fun z => deq z g.t) else none).map (fun b => !b) = _
  rw [if_pos (show (pln 50 g.t && pln 50 (.lst [a.t, b.t])) = true from rfl)]
  rcases h with rfl | rfl
  · simp only [List.any_cons, dq_t, Bool.true_or]
    rfl
  · simp only [List.any_cons, List.any_nil, dq_t, Bool.or_false, Bool.or_true]
    rfl
theorem tr_t : truD (.bl true) = some true := rfl
theorem w_tc : cmpD .eq (.str "touch") (.str "cross") = some false := by kernel_rfl
theorem w_ac : cmpD .eq (.str "apart") (.str "cross") = some false := by kernel_rfl
theorem w_cc : cmpD .eq (.str "cross") (.str "cross") = some true := by kernel_rfl
section
variable {p q g : Q} {R : Int}
theorem ex_pos1 (pp : 0 < p.pr p) (hR : R * R = p.pr p * q.pr q) (h0 : 0 < R) : 0 < (cmb R (p.pr p) p q).pr (cmb R (p.pr p) p q) ↔ p.pr q < R := by
  rw [ex_pr hR]
  generalize p.pr q = m
  constructor
  · intro z
    rcases (show m < R ∨ R ≤ m by omega) with w | w
    · exact w
    · have : R * (R - m) ≤ 0 := Int.mul_nonpos_of_nonneg_of_nonpos (by omega) (by omega)
      have := Int.mul_nonpos_of_nonneg_of_nonpos (show 0 ≤ 2 * p.pr p by omega) this
      omega
  · intro z
    exact Int.mul_pos (by omega) (Int.mul_pos h0 (by omega))
theorem ex_pos2 (pp : 0 < p.pr p) (hR : R * R = p.pr p * q.pr q) (h0 : 0 < R) : 0 < (cmb (0 - R) (p.pr p) p q).pr (cmb (0 - R) (p.pr p) p q) ↔ 0 - R < p.pr q := by
  have hR2 : (0 - R) * (0 - R) = p.pr p * q.pr q := by rw [← hR]; grind
  rw [ex_pr hR2]
  generalize p.pr q = m
  have e : (0 - R) * (0 - R - m) = R * (R + m) := by grind
  rw [e]
  constructor
  · intro z
    rcases (show 0 - R < m ∨ m ≤ 0 - R by omega) with w | w
    · exact w
    · have : R * (R + m) ≤ 0 := Int.mul_nonpos_of_nonneg_of_nonpos (by omega) (by omega)
      have := Int.mul_nonpos_of_nonneg_of_nonpos (show 0 ≤ 2 * p.pr p by omega) this
      omega
  · intro z
    exact Int.mul_pos (by omega) (Int.mul_pos h0 (by omega))
/-- the two are at right angles -/
theorem ex_right (hR : R * R = p.pr p * q.pr q) (h1 : 0 < (cmb R (p.pr p) p q).pr (cmb R (p.pr p) p q)) (h2 : 0 < (cmb (0 - R) (p.pr p) p q).pr (cmb (0 - R) (p.pr p) p q)) : (fpl R p q).pr (fpl (0 - R) p q) = 0 := by
  obtain ⟨y, hy, ey⟩ := tdQ_ex h1
  obtain ⟨z, hz, ez⟩ := tdQ_ex h2
  have e : (cmb R (p.pr p) p q).pr (cmb (0 - R) (p.pr p) p q) = 0 := by
    rw [pr_cmb, pr_comm (p := p) (q := cmb (0 - R) (p.pr p) p q), pr_comm (p := q) (q := cmb (0 - R) (p.pr p) p q), pr_cmb, pr_cmb, pr_comm (p := q) (q := p)]
    generalize p.pr p = P at *
    generalize p.pr q = m at *
    generalize q.pr q = N at *
    have : R * ((0 - R) * P - P * m) - P * ((0 - R) * m - P * N) = P * (P * N) - P * (R * R) := by grind
    rw [this, hR]
    grind
  rw [ey, ez, pr_mulL, pr_mulR] at e
  have e2 := (Int.mul_eq_zero.mp e).resolve_left hy
  exact (Int.mul_eq_zero.mp e2).resolve_left hz
theorem cmb_le {e : Int} (he : e.natAbs ≤ 300000) (hp : okS 7 p) (hq : okS 6174 q) : Le4 4000000 (cmb e (p.pr p) p q).a (cmb e (p.pr p) p q).b (cmb e (p.pr p) p q).c (cmb e (p.pr p) p q).d := by
  have P := pr_le hp.le hp.le
  have st : ∀ {x y : Int}, x.natAbs ≤ 7 → y.natAbs ≤ 6174 → (e * x - p.pr p * y).natAbs ≤ 4000000 := fun {x y} hx hy => by
    have a1 := le_mul he hx
    have a2 := le_mul P hy
    omega
  exact ⟨st hp.le.a hq.le.a, st hp.le.b hq.le.b, st hp.le.c hq.le.c, st hp.le.d hq.le.d⟩
theorem root_le (hp : okS 7 p) (hq : okS 6174 q) (h0 : 0 ≤ R) (hR : R * R = p.pr p * q.pr q) : R.natAbs ≤ 300000 := by
  have P := pr_le hp.le hp.le
  have N := pr_le hq.le hq.le
  have PN := le_mul P N
  rcases (show R ≤ 300000 ∨ 300000 ≤ R by omega) with w | w
  · omega
  · have := sq_le (a := 300000) (b := R) (by decide) w
    rw [hR] at this
    omega
end
theorem ev (ns : List Int) : ∃ S', callE LW Pr 20 26 [.d (.scr ns)] [] = some (.ok (.bl true), S') := by
  obtain ⟨xs0, h0⟩ : ∃ xs0 : List D, xs0 = [] := ⟨_, rfl⟩
  have l0 : xs0.length = 0 := by rw [h0]; rfl
  obtain ⟨pa, pb, pc, pd, kp, ep⟩ := ev_circle (n := 15) (L := LW) ls (ns := ns) (xs := xs0) (by omega) (R := [])
  have hp : okS 7 ⟨pa, pb, pc, pd⟩ := kp
  have ep : callE LW Pr 19 21 [.d (.scr ns), .ref 0] [.live (.lst xs0)] = some (.ok (Q.t ⟨pa, pb, pc, pd⟩), [.live (.lst (xs0 ++ [.int 0, .int 0, .int 0, .int 0, .int 0]))]) := ep
  generalize (⟨pa, pb, pc, pd⟩ : Q) = p at hp ep
  have l1 : (xs0 ++ [D.int 0, .int 0, .int 0, .int 0, .int 0]).length = (xs0).length + 5 := by simp
  generalize xs0 ++ [D.int 0, .int 0, .int 0, .int 0, .int 0] = xs1 at ep l1
  obtain ⟨ga, gb, gc, gd, kg, eg⟩ := ev_circle (n := 15) (L := LW) ls (ns := ns) (xs := xs1) (by omega) (R := [])
  have hg : okS 7 ⟨ga, gb, gc, gd⟩ := kg
  have eg : callE LW Pr 19 21 [.d (.scr ns), .ref 0] [.live (.lst xs1)] = some (.ok (Q.t ⟨ga, gb, gc, gd⟩), [.live (.lst (xs1 ++ [.int 0, .int 0, .int 0, .int 0, .int 0]))]) := eg
  generalize (⟨ga, gb, gc, gd⟩ : Q) = g at hg eg
  have l2 : (xs1 ++ [D.int 0, .int 0, .int 0, .int 0, .int 0]).length = (xs1).length + 5 := by simp
  generalize xs1 ++ [D.int 0, .int 0, .int 0, .int 0, .int 0] = xs2 at eg l2
  obtain ⟨ca, cb, cc, cd, kc, ec⟩ := ev_circle (n := 15) (L := LW) ls (ns := ns) (xs := xs2) (by omega) (R := [])
  have hc : okS 7 ⟨ca, cb, cc, cd⟩ := kc
  have ec : callE LW Pr 19 21 [.d (.scr ns), .ref 0] [.live (.lst xs2)] = some (.ok (Q.t ⟨ca, cb, cc, cd⟩), [.live (.lst (xs2 ++ [.int 0, .int 0, .int 0, .int 0, .int 0]))]) := ec
  generalize (⟨ca, cb, cc, cd⟩ : Q) = c at hc ec
  have l3 : (xs2 ++ [D.int 0, .int 0, .int 0, .int 0, .int 0]).length = (xs2).length + 5 := by simp
  generalize xs2 ++ [D.int 0, .int 0, .int 0, .int 0, .int 0] = xs3 at ec l3
  have op := hp.q (by decide)
  have og := hg.q (by decide)
  have pp : 0 < p.pr p := hp.pr
  have mg : ∀ S, callE LW Pr 19 7 [.d p.t, .d g.t] S = some (.ok (tm p g).t, S) := fun S => v_mirrored (n := 15) op og
  obtain ⟨yq, mq, eq0⟩ := pk (xs := xs3) (R := []) (ns := ns) 15 (ys := [c.t, (tm p g).t, (tm p g).t, p.t]) (Nat.zero_lt_succ _) (by omega)
  have l4 : (xs3 ++ [D.int 0]).length = xs3.length + 1 := by simp
  generalize xs3 ++ [D.int 0] = xs4 at eq0 l4
  obtain ⟨q, hq, rfl⟩ : ∃ q : Q, okS 6174 q ∧ yq = q.t := by
    simp only [List.mem_cons, List.not_mem_nil, or_false] at mq
    rcases mq with h | h | h | h
    · exact ⟨c, hc.mono (by decide), h⟩
    · exact ⟨_, tm_ok hp hg, h⟩
    · exact ⟨_, tm_ok hp hg, h⟩
    · exact ⟨p, hp.mono (by decide), h⟩
  have oq := hq.q (by decide)
  have pq : 0 < q.pr q := hq.pr
  refine ⟨[], (call_m (k := 0) (fr := [.d (.scr ns), .un, .un, .un, .un, .un, .un, .un, .un, .un, .un]) (S1 := [.dead]) (p := 1) (q := 11) (m := 1) (bd := i_law) rfl rfl rfl rfl rfl).trans ?_⟩
  rw [law_eq]
  have v0 : evT LW c9 0 q_0 [.d (.scr ns), .un, .un, .un, .un, .un, .un, .un, .un, .un, .un] [.dead] = some (.nx, [.d (.scr ns), .ref 0, .un, .un, .un, .un, .un, .un, .un, .un, .un], [.live (.lst xs0)]) := by rw [h0]; kernel_rfl
  rw [seq_nx v0]
  have v1 : evT LW c9 0 q_1 [.d (.scr ns), .ref 0, .un, .un, .un, .un, .un, .un, .un, .un, .un] [.live (.lst xs0)] = some (.nx, [.d (.scr ns), .ref 0, .d p.t, .un, .un, .un, .un, .un, .un, .un, .un], [.live (.lst xs1)]) := by
    simp only [q_1, c9, ep, e_var, kV_d, kV_r, kVr_l, kVr_f, e_arg, kA_d, kA_r, e_lit, pk_d, pk_r, kPr_l, kPr_f, outD_s, outB_s, e_bin, kBin1_v, kBin1_r, kBin2_v, kBin2_r, kBin3_s, e_cmp, kCmp1_v, kCmp1_r, kCmp2_v, kCmp2_r, kCmp3_s, e_idx, kIdx1_v, kIdx1_r, kIdx2_v, kIdx2_r, kIdx3_s, e_neg, kNeg1_v, kNeg1_r, e_tru, kTru1_v, kTru1_r, kNeg2_s, kTru2_s, e_isc, kIsc1_v, kIsc1_r, kIsc2_s, e_and, kAnd_t, kAnd_f, kAnd_r, e_or, kOr_t, kOr_f, kOr_r, e_not, kNot_t, kNot_f, kNot_r, e_ifx, kIfx_t, kIfx_f, kIfx_r, e_chn, kCh1_v, kCh1_r, kCh2_v, kCh2_r, kChP_s, kChB_t, kChB_f, kCh3_v, kCh3_r, kCh4_s, e_nil, e_cons, kCs1_v, kCs1_r, kCs2_v, kCs2_r, e_tup, kTu1_v, kTu1_r, kTu2_0, kTu2_1, kTu2_2, kTu2_3, kTu2_4, kTu2_5, kTu2_6, kTu2_7, kTu2_8, e_lst, kLi1_v, kLi1_r, kLi2_0, kLi2_1, kLi2_2, kLi2_3, kLi2_4, kLi2_5, kLi2_6, kLi2_7, kLi2_8, datL, Option.map_some, e_call, kCa1_v, kCa1_r, kCa2_o, kCa2_r, e_blt, kBl1_v, kBl1_r, kBl2_s, pl_nil, pl_cons, kPL_s, e_rng1, kR1_v, e_rng2, kR2_v, kR2_r, kR2b_v, e_comp, kC1_v, kC1_r, cl_nil, cl_cons, kCL_y, kCL_n, s_step, kS1_s, kS2_t, kS2_f, kS3_v, t_seq, kSq_n, kSq_t, kSq_r, kSq_b, t_nop, t_asg, kAs1_v, kAs1_r, kAs2_s, t_par, kPa1_v, kPa2_v, par_d, t_ret, kRt_v, kRt_r, t_exp, kEx_v, kEx_r, t_ite, kIt_t, kIt_f, kIt_r, t_rse, t_brk, t_try, kTr_r, kTr_n, kTr_t, t_for, kF1_v, kF1_r, kF2_s, fl_nil, fl_cons, kFL_n, kFL_t, kFL_r, kFL_b, s_for, kSF_s, List.getElem?_cons_zero, List.getElem?_cons_succ, List.set_cons_zero, List.set_cons_succ, List.length_cons, List.length_nil, List.cons_append, List.nil_append, b_add, b_sub, b_mul, b_fdiv, b_mod, c_lt, c_le, c_gt, c_ge, c_eq, c_ne, c_eqi, c_nei, l_tup, l_list, l_abs, sq_t, sq_l, i_t1_0, i_l1_0, i_t2_0, i_l2_0, i_t2_1, i_l2_1, i_t3_0, i_l3_0, i_t3_1, i_l3_1, i_t3_2, i_l3_2, i_t4_0, i_l4_0, i_t4_1, i_l4_1, i_t4_2, i_l4_2, i_t4_3, i_l4_3, i_t5_0, i_l5_0, i_t5_1, i_l5_1, i_t5_2, i_l5_2, i_t5_3, i_l5_3, i_t5_4, i_l5_4, i_t6_0, i_l6_0, i_t6_1, i_l6_1, i_t6_2, i_l6_2, i_t6_3, i_l6_3, i_t6_4, i_l6_4, i_t6_5, i_l6_5, bt_nm, wp_nil, wp_cons, List.replicate, Nat.reduceSub, List.append_nil, Int.reduceLT, Int.reduceLE, Int.reduceBEq, Int.reduceSub, decide_true, decide_false, Bool.not_true, Bool.not_false, Bool.not_not, e_rz, e_rz1, e_ok, e_nx, isc_e, ln0, ln1, ln2, ln3, ln4, lt2, lt4, if_true, if_false, reduceIte, Bool.false_eq_true, bt_nil_t, bt_cons_t, bt_nil_l, bt_cons_l, Option.bind, e_okC, t_asgM, kM1_l, kM2_t, kM1_r, nr_nil, nr_d, nr_u, nr_r, bq_0, bq_0a, bl_1, bl_1z, bl_2, bl_2z, bl_21, bl_c1, bl_c1z, bl_c1y, bl_c1x, bl_c2, bl_c2z, bl_c21, g_1, g_2, g_21, s_1, s_2, s_21, t_apd2, kAp3_u, kAp4_t, kP1_v, kP1_r, kP2_l, kP3_v, kP3_r, e_ok1, e_nx1, e_ok2, e_rz2, e_ok1c, e_ok2c, kC2_u, kC3_t, e_dsel, kD1_v, kD2_v, e_mth, kMt1_v, kMt2_l, kMt3_v, kMt4_s, l_any4, l_all4, ist_s0, ist_i0, tr_bl, is_nn, is_bn, is_in, is_tn, is_ln, is_sn, nb0, nc0, nb1, nc1, nb2, nc2, nb3, nc3, nb4, nc4, nb5, nc5, nb6, nc6, nb7, nc7, nb8, nc8, nb9, nc9, nb10, nc10, nb11, nc11, nb12, nc12, nb13, nc13, nb14, nc14, nb15, nc15, nb16, nc16, nb17, nc17, nb18, nc18, nb19, nc19, nb20, nc20, nb21, nc21, nb22, nc22, nb23, nc23, nb24, nc24, nb25, nc25, nb26, nc26, nb27, nc27, nb28, nc28, nb29, nc29, nb30, nc30, nb31, nc31, nb32, nc32, nb33, nc33, nb34, nc34, nb35, nc35, nb36, nc36, nb37, nc37, nb38, nc38, nb39, nc39, nb40, nc40, r1_0, r1_1, r1_2, r1_3, r1_4, r1_5, r1_6, rgl_1, rgl_2, rgl_3, rgl_4, md_1, md_2, md_3, md_4, qt0, qt1, qt2, qt3, Int.reduceMul, Int.reduceNeg, Int.reduceAdd, Nat.add_zero, Nat.reduceAdd, Bool.true_and, Bool.and_true, Bool.false_and, Bool.and_false, Bool.or_false, Bool.false_or]
  rw [seq_nx v1]
  have v2 : evT LW c9 0 q_2 [.d (.scr ns), .ref 0, .d p.t, .un, .un, .un, .un, .un, .un, .un, .un] [.live (.lst xs1)] = some (.nx, [.d (.scr ns), .ref 0, .d p.t, .d g.t, .un, .un, .un, .un, .un, .un, .un], [.live (.lst xs2)]) := by
    simp only [q_2, c9, eg, e_var, kV_d, kV_r, kVr_l, kVr_f, e_arg, kA_d, kA_r, e_lit, pk_d, pk_r, kPr_l, kPr_f, outD_s, outB_s, e_bin, kBin1_v, kBin1_r, kBin2_v, kBin2_r, kBin3_s, e_cmp, kCmp1_v, kCmp1_r, kCmp2_v, kCmp2_r, kCmp3_s, e_idx, kIdx1_v, kIdx1_r, kIdx2_v, kIdx2_r, kIdx3_s, e_neg, kNeg1_v, kNeg1_r, e_tru, kTru1_v, kTru1_r, kNeg2_s, kTru2_s, e_isc, kIsc1_v, kIsc1_r, kIsc2_s, e_and, kAnd_t, kAnd_f, kAnd_r, e_or, kOr_t, kOr_f, kOr_r, e_not, kNot_t, kNot_f, kNot_r, e_ifx, kIfx_t, kIfx_f, kIfx_r, e_chn, kCh1_v, kCh1_r, kCh2_v, kCh2_r, kChP_s, kChB_t, kChB_f, kCh3_v, kCh3_r, kCh4_s, e_nil, e_cons, kCs1_v, kCs1_r, kCs2_v, kCs2_r, e_tup, kTu1_v, kTu1_r, kTu2_0, kTu2_1, kTu2_2, kTu2_3, kTu2_4, kTu2_5, kTu2_6, kTu2_7, kTu2_8, e_lst, kLi1_v, kLi1_r, kLi2_0, kLi2_1, kLi2_2, kLi2_3, kLi2_4, kLi2_5, kLi2_6, kLi2_7, kLi2_8, datL, Option.map_some, e_call, kCa1_v, kCa1_r, kCa2_o, kCa2_r, e_blt, kBl1_v, kBl1_r, kBl2_s, pl_nil, pl_cons, kPL_s, e_rng1, kR1_v, e_rng2, kR2_v, kR2_r, kR2b_v, e_comp, kC1_v, kC1_r, cl_nil, cl_cons, kCL_y, kCL_n, s_step, kS1_s, kS2_t, kS2_f, kS3_v, t_seq, kSq_n, kSq_t, kSq_r, kSq_b, t_nop, t_asg, kAs1_v, kAs1_r, kAs2_s, t_par, kPa1_v, kPa2_v, par_d, t_ret, kRt_v, kRt_r, t_exp, kEx_v, kEx_r, t_ite, kIt_t, kIt_f, kIt_r, t_rse, t_brk, t_try, kTr_r, kTr_n, kTr_t, t_for, kF1_v, kF1_r, kF2_s, fl_nil, fl_cons, kFL_n, kFL_t, kFL_r, kFL_b, s_for, kSF_s, List.getElem?_cons_zero, List.getElem?_cons_succ, List.set_cons_zero, List.set_cons_succ, List.length_cons, List.length_nil, List.cons_append, List.nil_append, b_add, b_sub, b_mul, b_fdiv, b_mod, c_lt, c_le, c_gt, c_ge, c_eq, c_ne, c_eqi, c_nei, l_tup, l_list, l_abs, sq_t, sq_l, i_t1_0, i_l1_0, i_t2_0, i_l2_0, i_t2_1, i_l2_1, i_t3_0, i_l3_0, i_t3_1, i_l3_1, i_t3_2, i_l3_2, i_t4_0, i_l4_0, i_t4_1, i_l4_1, i_t4_2, i_l4_2, i_t4_3, i_l4_3, i_t5_0, i_l5_0, i_t5_1, i_l5_1, i_t5_2, i_l5_2, i_t5_3, i_l5_3, i_t5_4, i_l5_4, i_t6_0, i_l6_0, i_t6_1, i_l6_1, i_t6_2, i_l6_2, i_t6_3, i_l6_3, i_t6_4, i_l6_4, i_t6_5, i_l6_5, bt_nm, wp_nil, wp_cons, List.replicate, Nat.reduceSub, List.append_nil, Int.reduceLT, Int.reduceLE, Int.reduceBEq, Int.reduceSub, decide_true, decide_false, Bool.not_true, Bool.not_false, Bool.not_not, e_rz, e_rz1, e_ok, e_nx, isc_e, ln0, ln1, ln2, ln3, ln4, lt2, lt4, if_true, if_false, reduceIte, Bool.false_eq_true, bt_nil_t, bt_cons_t, bt_nil_l, bt_cons_l, Option.bind, e_okC, t_asgM, kM1_l, kM2_t, kM1_r, nr_nil, nr_d, nr_u, nr_r, bq_0, bq_0a, bl_1, bl_1z, bl_2, bl_2z, bl_21, bl_c1, bl_c1z, bl_c1y, bl_c1x, bl_c2, bl_c2z, bl_c21, g_1, g_2, g_21, s_1, s_2, s_21, t_apd2, kAp3_u, kAp4_t, kP1_v, kP1_r, kP2_l, kP3_v, kP3_r, e_ok1, e_nx1, e_ok2, e_rz2, e_ok1c, e_ok2c, kC2_u, kC3_t, e_dsel, kD1_v, kD2_v, e_mth, kMt1_v, kMt2_l, kMt3_v, kMt4_s, l_any4, l_all4, ist_s0, ist_i0, tr_bl, is_nn, is_bn, is_in, is_tn, is_ln, is_sn, nb0, nc0, nb1, nc1, nb2, nc2, nb3, nc3, nb4, nc4, nb5, nc5, nb6, nc6, nb7, nc7, nb8, nc8, nb9, nc9, nb10, nc10, nb11, nc11, nb12, nc12, nb13, nc13, nb14, nc14, nb15, nc15, nb16, nc16, nb17, nc17, nb18, nc18, nb19, nc19, nb20, nc20, nb21, nc21, nb22, nc22, nb23, nc23, nb24, nc24, nb25, nc25, nb26, nc26, nb27, nc27, nb28, nc28, nb29, nc29, nb30, nc30, nb31, nc31, nb32, nc32, nb33, nc33, nb34, nc34, nb35, nc35, nb36, nc36, nb37, nc37, nb38, nc38, nb39, nc39, nb40, nc40, r1_0, r1_1, r1_2, r1_3, r1_4, r1_5, r1_6, rgl_1, rgl_2, rgl_3, rgl_4, md_1, md_2, md_3, md_4, qt0, qt1, qt2, qt3, Int.reduceMul, Int.reduceNeg, Int.reduceAdd, Nat.add_zero, Nat.reduceAdd, Bool.true_and, Bool.and_true, Bool.false_and, Bool.and_false, Bool.or_false, Bool.false_or]
  rw [seq_nx v2]
  have v3 : evT LW c9 0 q_3 [.d (.scr ns), .ref 0, .d p.t, .d g.t, .un, .un, .un, .un, .un, .un, .un] [.live (.lst xs2)] = some (.nx, [.d (.scr ns), .ref 0, .d p.t, .d g.t, .d q.t, .un, .un, .un, .un, .un, .un], [.live (.lst xs4)]) := by
    simp only [q_3, c9, ec, mg, eq0, e_var, kV_d, kV_r, kVr_l, kVr_f, e_arg, kA_d, kA_r, e_lit, pk_d, pk_r, kPr_l, kPr_f, outD_s, outB_s, e_bin, kBin1_v, kBin1_r, kBin2_v, kBin2_r, kBin3_s, e_cmp, kCmp1_v, kCmp1_r, kCmp2_v, kCmp2_r, kCmp3_s, e_idx, kIdx1_v, kIdx1_r, kIdx2_v, kIdx2_r, kIdx3_s, e_neg, kNeg1_v, kNeg1_r, e_tru, kTru1_v, kTru1_r, kNeg2_s, kTru2_s, e_isc, kIsc1_v, kIsc1_r, kIsc2_s, e_and, kAnd_t, kAnd_f, kAnd_r, e_or, kOr_t, kOr_f, kOr_r, e_not, kNot_t, kNot_f, kNot_r, e_ifx, kIfx_t, kIfx_f, kIfx_r, e_chn, kCh1_v, kCh1_r, kCh2_v, kCh2_r, kChP_s, kChB_t, kChB_f, kCh3_v, kCh3_r, kCh4_s, e_nil, e_cons, kCs1_v, kCs1_r, kCs2_v, kCs2_r, e_tup, kTu1_v, kTu1_r, kTu2_0, kTu2_1, kTu2_2, kTu2_3, kTu2_4, kTu2_5, kTu2_6, kTu2_7, kTu2_8, e_lst, kLi1_v, kLi1_r, kLi2_0, kLi2_1, kLi2_2, kLi2_3, kLi2_4, kLi2_5, kLi2_6, kLi2_7, kLi2_8, datL, Option.map_some, e_call, kCa1_v, kCa1_r, kCa2_o, kCa2_r, e_blt, kBl1_v, kBl1_r, kBl2_s, pl_nil, pl_cons, kPL_s, e_rng1, kR1_v, e_rng2, kR2_v, kR2_r, kR2b_v, e_comp, kC1_v, kC1_r, cl_nil, cl_cons, kCL_y, kCL_n, s_step, kS1_s, kS2_t, kS2_f, kS3_v, t_seq, kSq_n, kSq_t, kSq_r, kSq_b, t_nop, t_asg, kAs1_v, kAs1_r, kAs2_s, t_par, kPa1_v, kPa2_v, par_d, t_ret, kRt_v, kRt_r, t_exp, kEx_v, kEx_r, t_ite, kIt_t, kIt_f, kIt_r, t_rse, t_brk, t_try, kTr_r, kTr_n, kTr_t, t_for, kF1_v, kF1_r, kF2_s, fl_nil, fl_cons, kFL_n, kFL_t, kFL_r, kFL_b, s_for, kSF_s, List.getElem?_cons_zero, List.getElem?_cons_succ, List.set_cons_zero, List.set_cons_succ, List.length_cons, List.length_nil, List.cons_append, List.nil_append, b_add, b_sub, b_mul, b_fdiv, b_mod, c_lt, c_le, c_gt, c_ge, c_eq, c_ne, c_eqi, c_nei, l_tup, l_list, l_abs, sq_t, sq_l, i_t1_0, i_l1_0, i_t2_0, i_l2_0, i_t2_1, i_l2_1, i_t3_0, i_l3_0, i_t3_1, i_l3_1, i_t3_2, i_l3_2, i_t4_0, i_l4_0, i_t4_1, i_l4_1, i_t4_2, i_l4_2, i_t4_3, i_l4_3, i_t5_0, i_l5_0, i_t5_1, i_l5_1, i_t5_2, i_l5_2, i_t5_3, i_l5_3, i_t5_4, i_l5_4, i_t6_0, i_l6_0, i_t6_1, i_l6_1, i_t6_2, i_l6_2, i_t6_3, i_l6_3, i_t6_4, i_l6_4, i_t6_5, i_l6_5, bt_nm, wp_nil, wp_cons, List.replicate, Nat.reduceSub, List.append_nil, Int.reduceLT, Int.reduceLE, Int.reduceBEq, Int.reduceSub, decide_true, decide_false, Bool.not_true, Bool.not_false, Bool.not_not, e_rz, e_rz1, e_ok, e_nx, isc_e, ln0, ln1, ln2, ln3, ln4, lt2, lt4, if_true, if_false, reduceIte, Bool.false_eq_true, bt_nil_t, bt_cons_t, bt_nil_l, bt_cons_l, Option.bind, e_okC, t_asgM, kM1_l, kM2_t, kM1_r, nr_nil, nr_d, nr_u, nr_r, bq_0, bq_0a, bl_1, bl_1z, bl_2, bl_2z, bl_21, bl_c1, bl_c1z, bl_c1y, bl_c1x, bl_c2, bl_c2z, bl_c21, g_1, g_2, g_21, s_1, s_2, s_21, t_apd2, kAp3_u, kAp4_t, kP1_v, kP1_r, kP2_l, kP3_v, kP3_r, e_ok1, e_nx1, e_ok2, e_rz2, e_ok1c, e_ok2c, kC2_u, kC3_t, e_dsel, kD1_v, kD2_v, e_mth, kMt1_v, kMt2_l, kMt3_v, kMt4_s, l_any4, l_all4, ist_s0, ist_i0, tr_bl, is_nn, is_bn, is_in, is_tn, is_ln, is_sn, nb0, nc0, nb1, nc1, nb2, nc2, nb3, nc3, nb4, nc4, nb5, nc5, nb6, nc6, nb7, nc7, nb8, nc8, nb9, nc9, nb10, nc10, nb11, nc11, nb12, nc12, nb13, nc13, nb14, nc14, nb15, nc15, nb16, nc16, nb17, nc17, nb18, nc18, nb19, nc19, nb20, nc20, nb21, nc21, nb22, nc22, nb23, nc23, nb24, nc24, nb25, nc25, nb26, nc26, nb27, nc27, nb28, nc28, nb29, nc29, nb30, nc30, nb31, nc31, nb32, nc32, nb33, nc33, nb34, nc34, nb35, nc35, nb36, nc36, nb37, nc37, nb38, nc38, nb39, nc39, nb40, nc40, r1_0, r1_1, r1_2, r1_3, r1_4, r1_5, r1_6, rgl_1, rgl_2, rgl_3, rgl_4, md_1, md_2, md_3, md_4, qt0, qt1, qt2, qt3, Int.reduceMul, Int.reduceNeg, Int.reduceAdd, Nat.add_zero, Nat.reduceAdd, Bool.true_and, Bool.and_true, Bool.false_and, Bool.and_false, Bool.or_false, Bool.false_or]
  rw [seq_nx v3]
  have lpp : callE LW Pr 19 19 [.d p.t, .d p.t] [.live (.lst xs4)] = some (.ok (.int (p.pr p)), [.live (.lst xs4)]) := v_lpr (n := 18) op.bd op.bd
  have lqq : callE LW Pr 19 19 [.d q.t, .d q.t] [.live (.lst xs4)] = some (.ok (.int (q.pr q)), [.live (.lst xs4)]) := v_lpr (n := 18) oq.bd oq.bd
  have b1 := pr_bd op.bd op.bd
  have b2 := pr_bd oq.bd oq.bd
  have s1 := b1.sm (show 250 ≤ 8000 by decide)
  have s2 := b2.sm (show 250 ≤ 8000 by decide)
  obtain ⟨rd, hrd, erd⟩ := v_lroot (n := 18) (S := [.live (.lst xs4)]) (N := p.pr p * q.pr q) (Int.le_of_lt (Int.mul_pos pp pq)) ((b1.mul b2).mono (by decide))
  have v4 : evT LW c9 0 q_4 [.d (.scr ns), .ref 0, .d p.t, .d g.t, .d q.t, .un, .un, .un, .un, .un, .un] [.live (.lst xs4)] = some (.nx, [.d (.scr ns), .ref 0, .d p.t, .d g.t, .d q.t, .d rd, .un, .un, .un, .un, .un], [.live (.lst xs4)]) := by
    simp only [q_4, c9, lpp, lqq, b_mul s1 s2, erd, e_var, kV_d, kV_r, kVr_l, kVr_f, e_arg, kA_d, kA_r, e_lit, pk_d, pk_r, kPr_l, kPr_f, outD_s, outB_s, e_bin, kBin1_v, kBin1_r, kBin2_v, kBin2_r, kBin3_s, e_cmp, kCmp1_v, kCmp1_r, kCmp2_v, kCmp2_r, kCmp3_s, e_idx, kIdx1_v, kIdx1_r, kIdx2_v, kIdx2_r, kIdx3_s, e_neg, kNeg1_v, kNeg1_r, e_tru, kTru1_v, kTru1_r, kNeg2_s, kTru2_s, e_isc, kIsc1_v, kIsc1_r, kIsc2_s, e_and, kAnd_t, kAnd_f, kAnd_r, e_or, kOr_t, kOr_f, kOr_r, e_not, kNot_t, kNot_f, kNot_r, e_ifx, kIfx_t, kIfx_f, kIfx_r, e_chn, kCh1_v, kCh1_r, kCh2_v, kCh2_r, kChP_s, kChB_t, kChB_f, kCh3_v, kCh3_r, kCh4_s, e_nil, e_cons, kCs1_v, kCs1_r, kCs2_v, kCs2_r, e_tup, kTu1_v, kTu1_r, kTu2_0, kTu2_1, kTu2_2, kTu2_3, kTu2_4, kTu2_5, kTu2_6, kTu2_7, kTu2_8, e_lst, kLi1_v, kLi1_r, kLi2_0, kLi2_1, kLi2_2, kLi2_3, kLi2_4, kLi2_5, kLi2_6, kLi2_7, kLi2_8, datL, Option.map_some, e_call, kCa1_v, kCa1_r, kCa2_o, kCa2_r, e_blt, kBl1_v, kBl1_r, kBl2_s, pl_nil, pl_cons, kPL_s, e_rng1, kR1_v, e_rng2, kR2_v, kR2_r, kR2b_v, e_comp, kC1_v, kC1_r, cl_nil, cl_cons, kCL_y, kCL_n, s_step, kS1_s, kS2_t, kS2_f, kS3_v, t_seq, kSq_n, kSq_t, kSq_r, kSq_b, t_nop, t_asg, kAs1_v, kAs1_r, kAs2_s, t_par, kPa1_v, kPa2_v, par_d, t_ret, kRt_v, kRt_r, t_exp, kEx_v, kEx_r, t_ite, kIt_t, kIt_f, kIt_r, t_rse, t_brk, t_try, kTr_r, kTr_n, kTr_t, t_for, kF1_v, kF1_r, kF2_s, fl_nil, fl_cons, kFL_n, kFL_t, kFL_r, kFL_b, s_for, kSF_s, List.getElem?_cons_zero, List.getElem?_cons_succ, List.set_cons_zero, List.set_cons_succ, List.length_cons, List.length_nil, List.cons_append, List.nil_append, b_add, b_sub, b_mul, b_fdiv, b_mod, c_lt, c_le, c_gt, c_ge, c_eq, c_ne, c_eqi, c_nei, l_tup, l_list, l_abs, sq_t, sq_l, i_t1_0, i_l1_0, i_t2_0, i_l2_0, i_t2_1, i_l2_1, i_t3_0, i_l3_0, i_t3_1, i_l3_1, i_t3_2, i_l3_2, i_t4_0, i_l4_0, i_t4_1, i_l4_1, i_t4_2, i_l4_2, i_t4_3, i_l4_3, i_t5_0, i_l5_0, i_t5_1, i_l5_1, i_t5_2, i_l5_2, i_t5_3, i_l5_3, i_t5_4, i_l5_4, i_t6_0, i_l6_0, i_t6_1, i_l6_1, i_t6_2, i_l6_2, i_t6_3, i_l6_3, i_t6_4, i_l6_4, i_t6_5, i_l6_5, bt_nm, wp_nil, wp_cons, List.replicate, Nat.reduceSub, List.append_nil, Int.reduceLT, Int.reduceLE, Int.reduceBEq, Int.reduceSub, decide_true, decide_false, Bool.not_true, Bool.not_false, Bool.not_not, e_rz, e_rz1, e_ok, e_nx, isc_e, ln0, ln1, ln2, ln3, ln4, lt2, lt4, if_true, if_false, reduceIte, Bool.false_eq_true, bt_nil_t, bt_cons_t, bt_nil_l, bt_cons_l, Option.bind, e_okC, t_asgM, kM1_l, kM2_t, kM1_r, nr_nil, nr_d, nr_u, nr_r, bq_0, bq_0a, bl_1, bl_1z, bl_2, bl_2z, bl_21, bl_c1, bl_c1z, bl_c1y, bl_c1x, bl_c2, bl_c2z, bl_c21, g_1, g_2, g_21, s_1, s_2, s_21, t_apd2, kAp3_u, kAp4_t, kP1_v, kP1_r, kP2_l, kP3_v, kP3_r, e_ok1, e_nx1, e_ok2, e_rz2, e_ok1c, e_ok2c, kC2_u, kC3_t, e_dsel, kD1_v, kD2_v, e_mth, kMt1_v, kMt2_l, kMt3_v, kMt4_s, l_any4, l_all4, ist_s0, ist_i0, tr_bl, is_nn, is_bn, is_in, is_tn, is_ln, is_sn, nb0, nc0, nb1, nc1, nb2, nc2, nb3, nc3, nb4, nc4, nb5, nc5, nb6, nc6, nb7, nc7, nb8, nc8, nb9, nc9, nb10, nc10, nb11, nc11, nb12, nc12, nb13, nc13, nb14, nc14, nb15, nc15, nb16, nc16, nb17, nc17, nb18, nc18, nb19, nc19, nb20, nc20, nb21, nc21, nb22, nc22, nb23, nc23, nb24, nc24, nb25, nc25, nb26, nc26, nb27, nc27, nb28, nc28, nb29, nc29, nb30, nc30, nb31, nc31, nb32, nc32, nb33, nc33, nb34, nc34, nb35, nc35, nb36, nc36, nb37, nc37, nb38, nc38, nb39, nc39, nb40, nc40, r1_0, r1_1, r1_2, r1_3, r1_4, r1_5, r1_6, rgl_1, rgl_2, rgl_3, rgl_4, md_1, md_2, md_3, md_4, qt0, qt1, qt2, qt3, Int.reduceMul, Int.reduceNeg, Int.reduceAdd, Nat.add_zero, Nat.reduceAdd, Bool.true_and, Bool.and_true, Bool.false_and, Bool.and_false, Bool.or_false, Bool.false_or]
  rw [seq_nx v4]
  have ce := c_eq (plnQ (p := p)) (plnQ (p := q))
  have s56 : ∃ fd : D, evT LW c9 0 q_5 [.d (.scr ns), .ref 0, .d p.t, .d g.t, .d q.t, .d rd, .un, .un, .un, .un, .un] [.live (.lst xs4)] = some (.nx, [.d (.scr ns), .ref 0, .d p.t, .d g.t, .d q.t, .d rd, .d fd, .un, .un, .un, .un], [.live (.lst xs4)]) ∧ evT LW c9 0 q_6 [.d (.scr ns), .ref 0, .d p.t, .d g.t, .d q.t, .d rd, .d fd, .un, .un, .un, .un] [.live (.lst xs4)] = some (.nx, [.d (.scr ns), .ref 0, .d p.t, .d g.t, .d q.t, .d rd, .d fd, .un, .un, .un, .un], [.live (.lst xs4)]) := by
    cases hd : deq p.t q.t with
    | true =>
      have t0 := to_rz0 (n := 17) (v_ex_eq (n := 14) (S := [.live (.lst xs4)]) op oq hd)
      refine ⟨.tup [.str "refused", .str "none"], ?_, ?_⟩
      rotate_left
      · simp only [q_6, c9, ce, hd, rf_ne, e_var, kV_d, kV_r, kVr_l, kVr_f, e_arg, kA_d, kA_r, e_lit, pk_d, pk_r, kPr_l, kPr_f, outD_s, outB_s, e_bin, kBin1_v, kBin1_r, kBin2_v, kBin2_r, kBin3_s, e_cmp, kCmp1_v, kCmp1_r, kCmp2_v, kCmp2_r, kCmp3_s, e_idx, kIdx1_v, kIdx1_r, kIdx2_v, kIdx2_r, kIdx3_s, e_neg, kNeg1_v, kNeg1_r, e_tru, kTru1_v, kTru1_r, kNeg2_s, kTru2_s, e_isc, kIsc1_v, kIsc1_r, kIsc2_s, e_and, kAnd_t, kAnd_f, kAnd_r, e_or, kOr_t, kOr_f, kOr_r, e_not, kNot_t, kNot_f, kNot_r, e_ifx, kIfx_t, kIfx_f, kIfx_r, e_chn, kCh1_v, kCh1_r, kCh2_v, kCh2_r, kChP_s, kChB_t, kChB_f, kCh3_v, kCh3_r, kCh4_s, e_nil, e_cons, kCs1_v, kCs1_r, kCs2_v, kCs2_r, e_tup, kTu1_v, kTu1_r, kTu2_0, kTu2_1, kTu2_2, kTu2_3, kTu2_4, kTu2_5, kTu2_6, kTu2_7, kTu2_8, e_lst, kLi1_v, kLi1_r, kLi2_0, kLi2_1, kLi2_2, kLi2_3, kLi2_4, kLi2_5, kLi2_6, kLi2_7, kLi2_8, datL, Option.map_some, e_call, kCa1_v, kCa1_r, kCa2_o, kCa2_r, e_blt, kBl1_v, kBl1_r, kBl2_s, pl_nil, pl_cons, kPL_s, e_rng1, kR1_v, e_rng2, kR2_v, kR2_r, kR2b_v, e_comp, kC1_v, kC1_r, cl_nil, cl_cons, kCL_y, kCL_n, s_step, kS1_s, kS2_t, kS2_f, kS3_v, t_seq, kSq_n, kSq_t, kSq_r, kSq_b, t_nop, t_asg, kAs1_v, kAs1_r, kAs2_s, t_par, kPa1_v, kPa2_v, par_d, t_ret, kRt_v, kRt_r, t_exp, kEx_v, kEx_r, t_ite, kIt_t, kIt_f, kIt_r, t_rse, t_brk, t_try, kTr_r, kTr_n, kTr_t, t_for, kF1_v, kF1_r, kF2_s, fl_nil, fl_cons, kFL_n, kFL_t, kFL_r, kFL_b, s_for, kSF_s, List.getElem?_cons_zero, List.getElem?_cons_succ, List.set_cons_zero, List.set_cons_succ, List.length_cons, List.length_nil, List.cons_append, List.nil_append, b_add, b_sub, b_mul, b_fdiv, b_mod, c_lt, c_le, c_gt, c_ge, c_eq, c_ne, c_eqi, c_nei, l_tup, l_list, l_abs, sq_t, sq_l, i_t1_0, i_l1_0, i_t2_0, i_l2_0, i_t2_1, i_l2_1, i_t3_0, i_l3_0, i_t3_1, i_l3_1, i_t3_2, i_l3_2, i_t4_0, i_l4_0, i_t4_1, i_l4_1, i_t4_2, i_l4_2, i_t4_3, i_l4_3, i_t5_0, i_l5_0, i_t5_1, i_l5_1, i_t5_2, i_l5_2, i_t5_3, i_l5_3, i_t5_4, i_l5_4, i_t6_0, i_l6_0, i_t6_1, i_l6_1, i_t6_2, i_l6_2, i_t6_3, i_l6_3, i_t6_4, i_l6_4, i_t6_5, i_l6_5, bt_nm, wp_nil, wp_cons, List.replicate, Nat.reduceSub, List.append_nil, Int.reduceLT, Int.reduceLE, Int.reduceBEq, Int.reduceSub, decide_true, decide_false, Bool.not_true, Bool.not_false, Bool.not_not, e_rz, e_rz1, e_ok, e_nx, isc_e, ln0, ln1, ln2, ln3, ln4, lt2, lt4, if_true, if_false, reduceIte, Bool.false_eq_true, bt_nil_t, bt_cons_t, bt_nil_l, bt_cons_l, Option.bind, e_okC, t_asgM, kM1_l, kM2_t, kM1_r, nr_nil, nr_d, nr_u, nr_r, bq_0, bq_0a, bl_1, bl_1z, bl_2, bl_2z, bl_21, bl_c1, bl_c1z, bl_c1y, bl_c1x, bl_c2, bl_c2z, bl_c21, g_1, g_2, g_21, s_1, s_2, s_21, t_apd2, kAp3_u, kAp4_t, kP1_v, kP1_r, kP2_l, kP3_v, kP3_r, e_ok1, e_nx1, e_ok2, e_rz2, e_ok1c, e_ok2c, kC2_u, kC3_t, e_dsel, kD1_v, kD2_v, e_mth, kMt1_v, kMt2_l, kMt3_v, kMt4_s, l_any4, l_all4, ist_s0, ist_i0, tr_bl, is_nn, is_bn, is_in, is_tn, is_ln, is_sn, nb0, nc0, nb1, nc1, nb2, nc2, nb3, nc3, nb4, nc4, nb5, nc5, nb6, nc6, nb7, nc7, nb8, nc8, nb9, nc9, nb10, nc10, nb11, nc11, nb12, nc12, nb13, nc13, nb14, nc14, nb15, nc15, nb16, nc16, nb17, nc17, nb18, nc18, nb19, nc19, nb20, nc20, nb21, nc21, nb22, nc22, nb23, nc23, nb24, nc24, nb25, nc25, nb26, nc26, nb27, nc27, nb28, nc28, nb29, nc29, nb30, nc30, nb31, nc31, nb32, nc32, nb33, nc33, nb34, nc34, nb35, nc35, nb36, nc36, nb37, nc37, nb38, nc38, nb39, nc39, nb40, nc40, r1_0, r1_1, r1_2, r1_3, r1_4, r1_5, r1_6, rgl_1, rgl_2, rgl_3, rgl_4, md_1, md_2, md_3, md_4, qt0, qt1, qt2, qt3, Int.reduceMul, Int.reduceNeg, Int.reduceAdd, Nat.add_zero, Nat.reduceAdd, Bool.true_and, Bool.and_true, Bool.false_and, Bool.and_false, Bool.or_false, Bool.false_or]
      · simp only [q_5, c9, t0, e_var, kV_d, kV_r, kVr_l, kVr_f, e_arg, kA_d, kA_r, e_lit, pk_d, pk_r, kPr_l, kPr_f, outD_s, outB_s, e_bin, kBin1_v, kBin1_r, kBin2_v, kBin2_r, kBin3_s, e_cmp, kCmp1_v, kCmp1_r, kCmp2_v, kCmp2_r, kCmp3_s, e_idx, kIdx1_v, kIdx1_r, kIdx2_v, kIdx2_r, kIdx3_s, e_neg, kNeg1_v, kNeg1_r, e_tru, kTru1_v, kTru1_r, kNeg2_s, kTru2_s, e_isc, kIsc1_v, kIsc1_r, kIsc2_s, e_and, kAnd_t, kAnd_f, kAnd_r, e_or, kOr_t, kOr_f, kOr_r, e_not, kNot_t, kNot_f, kNot_r, e_ifx, kIfx_t, kIfx_f, kIfx_r, e_chn, kCh1_v, kCh1_r, kCh2_v, kCh2_r, kChP_s, kChB_t, kChB_f, kCh3_v, kCh3_r, kCh4_s, e_nil, e_cons, kCs1_v, kCs1_r, kCs2_v, kCs2_r, e_tup, kTu1_v, kTu1_r, kTu2_0, kTu2_1, kTu2_2, kTu2_3, kTu2_4, kTu2_5, kTu2_6, kTu2_7, kTu2_8, e_lst, kLi1_v, kLi1_r, kLi2_0, kLi2_1, kLi2_2, kLi2_3, kLi2_4, kLi2_5, kLi2_6, kLi2_7, kLi2_8, datL, Option.map_some, e_call, kCa1_v, kCa1_r, kCa2_o, kCa2_r, e_blt, kBl1_v, kBl1_r, kBl2_s, pl_nil, pl_cons, kPL_s, e_rng1, kR1_v, e_rng2, kR2_v, kR2_r, kR2b_v, e_comp, kC1_v, kC1_r, cl_nil, cl_cons, kCL_y, kCL_n, s_step, kS1_s, kS2_t, kS2_f, kS3_v, t_seq, kSq_n, kSq_t, kSq_r, kSq_b, t_nop, t_asg, kAs1_v, kAs1_r, kAs2_s, t_par, kPa1_v, kPa2_v, par_d, t_ret, kRt_v, kRt_r, t_exp, kEx_v, kEx_r, t_ite, kIt_t, kIt_f, kIt_r, t_rse, t_brk, t_try, kTr_r, kTr_n, kTr_t, t_for, kF1_v, kF1_r, kF2_s, fl_nil, fl_cons, kFL_n, kFL_t, kFL_r, kFL_b, s_for, kSF_s, List.getElem?_cons_zero, List.getElem?_cons_succ, List.set_cons_zero, List.set_cons_succ, List.length_cons, List.length_nil, List.cons_append, List.nil_append, b_add, b_sub, b_mul, b_fdiv, b_mod, c_lt, c_le, c_gt, c_ge, c_eq, c_ne, c_eqi, c_nei, l_tup, l_list, l_abs, sq_t, sq_l, i_t1_0, i_l1_0, i_t2_0, i_l2_0, i_t2_1, i_l2_1, i_t3_0, i_l3_0, i_t3_1, i_l3_1, i_t3_2, i_l3_2, i_t4_0, i_l4_0, i_t4_1, i_l4_1, i_t4_2, i_l4_2, i_t4_3, i_l4_3, i_t5_0, i_l5_0, i_t5_1, i_l5_1, i_t5_2, i_l5_2, i_t5_3, i_l5_3, i_t5_4, i_l5_4, i_t6_0, i_l6_0, i_t6_1, i_l6_1, i_t6_2, i_l6_2, i_t6_3, i_l6_3, i_t6_4, i_l6_4, i_t6_5, i_l6_5, bt_nm, wp_nil, wp_cons, List.replicate, Nat.reduceSub, List.append_nil, Int.reduceLT, Int.reduceLE, Int.reduceBEq, Int.reduceSub, decide_true, decide_false, Bool.not_true, Bool.not_false, Bool.not_not, e_rz, e_rz1, e_ok, e_nx, isc_e, ln0, ln1, ln2, ln3, ln4, lt2, lt4, if_true, if_false, reduceIte, Bool.false_eq_true, bt_nil_t, bt_cons_t, bt_nil_l, bt_cons_l, Option.bind, e_okC, t_asgM, kM1_l, kM2_t, kM1_r, nr_nil, nr_d, nr_u, nr_r, bq_0, bq_0a, bl_1, bl_1z, bl_2, bl_2z, bl_21, bl_c1, bl_c1z, bl_c1y, bl_c1x, bl_c2, bl_c2z, bl_c21, g_1, g_2, g_21, s_1, s_2, s_21, t_apd2, kAp3_u, kAp4_t, kP1_v, kP1_r, kP2_l, kP3_v, kP3_r, e_ok1, e_nx1, e_ok2, e_rz2, e_ok1c, e_ok2c, kC2_u, kC3_t, e_dsel, kD1_v, kD2_v, e_mth, kMt1_v, kMt2_l, kMt3_v, kMt4_s, l_any4, l_all4, ist_s0, ist_i0, tr_bl, is_nn, is_bn, is_in, is_tn, is_ln, is_sn, nb0, nc0, nb1, nc1, nb2, nc2, nb3, nc3, nb4, nc4, nb5, nc5, nb6, nc6, nb7, nc7, nb8, nc8, nb9, nc9, nb10, nc10, nb11, nc11, nb12, nc12, nb13, nc13, nb14, nc14, nb15, nc15, nb16, nc16, nb17, nc17, nb18, nc18, nb19, nc19, nb20, nc20, nb21, nc21, nb22, nc22, nb23, nc23, nb24, nc24, nb25, nc25, nb26, nc26, nb27, nc27, nb28, nc28, nb29, nc29, nb30, nc30, nb31, nc31, nb32, nc32, nb33, nc33, nb34, nc34, nb35, nc35, nb36, nc36, nb37, nc37, nb38, nc38, nb39, nc39, nb40, nc40, r1_0, r1_1, r1_2, r1_3, r1_4, r1_5, r1_6, rgl_1, rgl_2, rgl_3, rgl_4, md_1, md_2, md_3, md_4, qt0, qt1, qt2, qt3, Int.reduceMul, Int.reduceNeg, Int.reduceAdd, Nat.add_zero, Nat.reduceAdd, Bool.true_and, Bool.and_true, Bool.false_and, Bool.and_false, Bool.or_false, Bool.false_or]
    | false =>
      have npq : p ≠ q := fun z => by rw [dq_iff.mpr z] at hd; cases hd
      cases hrd with
      | no hn =>
        have t0 := to_rz0 (n := 17) (v_ex_no (n := 14) (S := [.live (.lst xs4)]) op oq hd (.no hn))
        refine ⟨.tup [.str "refused", .str "none"], ?_, ?_⟩
        rotate_left
        · simp only [q_6, c9, ce, hd, rf_ne, e_var, kV_d, kV_r, kVr_l, kVr_f, e_arg, kA_d, kA_r, e_lit, pk_d, pk_r, kPr_l, kPr_f, outD_s, outB_s, e_bin, kBin1_v, kBin1_r, kBin2_v, kBin2_r, kBin3_s, e_cmp, kCmp1_v, kCmp1_r, kCmp2_v, kCmp2_r, kCmp3_s, e_idx, kIdx1_v, kIdx1_r, kIdx2_v, kIdx2_r, kIdx3_s, e_neg, kNeg1_v, kNeg1_r, e_tru, kTru1_v, kTru1_r, kNeg2_s, kTru2_s, e_isc, kIsc1_v, kIsc1_r, kIsc2_s, e_and, kAnd_t, kAnd_f, kAnd_r, e_or, kOr_t, kOr_f, kOr_r, e_not, kNot_t, kNot_f, kNot_r, e_ifx, kIfx_t, kIfx_f, kIfx_r, e_chn, kCh1_v, kCh1_r, kCh2_v, kCh2_r, kChP_s, kChB_t, kChB_f, kCh3_v, kCh3_r, kCh4_s, e_nil, e_cons, kCs1_v, kCs1_r, kCs2_v, kCs2_r, e_tup, kTu1_v, kTu1_r, kTu2_0, kTu2_1, kTu2_2, kTu2_3, kTu2_4, kTu2_5, kTu2_6, kTu2_7, kTu2_8, e_lst, kLi1_v, kLi1_r, kLi2_0, kLi2_1, kLi2_2, kLi2_3, kLi2_4, kLi2_5, kLi2_6, kLi2_7, kLi2_8, datL, Option.map_some, e_call, kCa1_v, kCa1_r, kCa2_o, kCa2_r, e_blt, kBl1_v, kBl1_r, kBl2_s, pl_nil, pl_cons, kPL_s, e_rng1, kR1_v, e_rng2, kR2_v, kR2_r, kR2b_v, e_comp, kC1_v, kC1_r, cl_nil, cl_cons, kCL_y, kCL_n, s_step, kS1_s, kS2_t, kS2_f, kS3_v, t_seq, kSq_n, kSq_t, kSq_r, kSq_b, t_nop, t_asg, kAs1_v, kAs1_r, kAs2_s, t_par, kPa1_v, kPa2_v, par_d, t_ret, kRt_v, kRt_r, t_exp, kEx_v, kEx_r, t_ite, kIt_t, kIt_f, kIt_r, t_rse, t_brk, t_try, kTr_r, kTr_n, kTr_t, t_for, kF1_v, kF1_r, kF2_s, fl_nil, fl_cons, kFL_n, kFL_t, kFL_r, kFL_b, s_for, kSF_s, List.getElem?_cons_zero, List.getElem?_cons_succ, List.set_cons_zero, List.set_cons_succ, List.length_cons, List.length_nil, List.cons_append, List.nil_append, b_add, b_sub, b_mul, b_fdiv, b_mod, c_lt, c_le, c_gt, c_ge, c_eq, c_ne, c_eqi, c_nei, l_tup, l_list, l_abs, sq_t, sq_l, i_t1_0, i_l1_0, i_t2_0, i_l2_0, i_t2_1, i_l2_1, i_t3_0, i_l3_0, i_t3_1, i_l3_1, i_t3_2, i_l3_2, i_t4_0, i_l4_0, i_t4_1, i_l4_1, i_t4_2, i_l4_2, i_t4_3, i_l4_3, i_t5_0, i_l5_0, i_t5_1, i_l5_1, i_t5_2, i_l5_2, i_t5_3, i_l5_3, i_t5_4, i_l5_4, i_t6_0, i_l6_0, i_t6_1, i_l6_1, i_t6_2, i_l6_2, i_t6_3, i_l6_3, i_t6_4, i_l6_4, i_t6_5, i_l6_5, bt_nm, wp_nil, wp_cons, List.replicate, Nat.reduceSub, List.append_nil, Int.reduceLT, Int.reduceLE, Int.reduceBEq, Int.reduceSub, decide_true, decide_false, Bool.not_true, Bool.not_false, Bool.not_not, e_rz, e_rz1, e_ok, e_nx, isc_e, ln0, ln1, ln2, ln3, ln4, lt2, lt4, if_true, if_false, reduceIte, Bool.false_eq_true, bt_nil_t, bt_cons_t, bt_nil_l, bt_cons_l, Option.bind, e_okC, t_asgM, kM1_l, kM2_t, kM1_r, nr_nil, nr_d, nr_u, nr_r, bq_0, bq_0a, bl_1, bl_1z, bl_2, bl_2z, bl_21, bl_c1, bl_c1z, bl_c1y, bl_c1x, bl_c2, bl_c2z, bl_c21, g_1, g_2, g_21, s_1, s_2, s_21, t_apd2, kAp3_u, kAp4_t, kP1_v, kP1_r, kP2_l, kP3_v, kP3_r, e_ok1, e_nx1, e_ok2, e_rz2, e_ok1c, e_ok2c, kC2_u, kC3_t, e_dsel, kD1_v, kD2_v, e_mth, kMt1_v, kMt2_l, kMt3_v, kMt4_s, l_any4, l_all4, ist_s0, ist_i0, tr_bl, is_nn, is_bn, is_in, is_tn, is_ln, is_sn, nb0, nc0, nb1, nc1, nb2, nc2, nb3, nc3, nb4, nc4, nb5, nc5, nb6, nc6, nb7, nc7, nb8, nc8, nb9, nc9, nb10, nc10, nb11, nc11, nb12, nc12, nb13, nc13, nb14, nc14, nb15, nc15, nb16, nc16, nb17, nc17, nb18, nc18, nb19, nc19, nb20, nc20, nb21, nc21, nb22, nc22, nb23, nc23, nb24, nc24, nb25, nc25, nb26, nc26, nb27, nc27, nb28, nc28, nb29, nc29, nb30, nc30, nb31, nc31, nb32, nc32, nb33, nc33, nb34, nc34, nb35, nc35, nb36, nc36, nb37, nc37, nb38, nc38, nb39, nc39, nb40, nc40, r1_0, r1_1, r1_2, r1_3, r1_4, r1_5, r1_6, rgl_1, rgl_2, rgl_3, rgl_4, md_1, md_2, md_3, md_4, qt0, qt1, qt2, qt3, Int.reduceMul, Int.reduceNeg, Int.reduceAdd, Nat.add_zero, Nat.reduceAdd, Bool.true_and, Bool.and_true, Bool.false_and, Bool.and_false, Bool.or_false, Bool.false_or]
        · simp only [q_5, c9, t0, e_var, kV_d, kV_r, kVr_l, kVr_f, e_arg, kA_d, kA_r, e_lit, pk_d, pk_r, kPr_l, kPr_f, outD_s, outB_s, e_bin, kBin1_v, kBin1_r, kBin2_v, kBin2_r, kBin3_s, e_cmp, kCmp1_v, kCmp1_r, kCmp2_v, kCmp2_r, kCmp3_s, e_idx, kIdx1_v, kIdx1_r, kIdx2_v, kIdx2_r, kIdx3_s, e_neg, kNeg1_v, kNeg1_r, e_tru, kTru1_v, kTru1_r, kNeg2_s, kTru2_s, e_isc, kIsc1_v, kIsc1_r, kIsc2_s, e_and, kAnd_t, kAnd_f, kAnd_r, e_or, kOr_t, kOr_f, kOr_r, e_not, kNot_t, kNot_f, kNot_r, e_ifx, kIfx_t, kIfx_f, kIfx_r, e_chn, kCh1_v, kCh1_r, kCh2_v, kCh2_r, kChP_s, kChB_t, kChB_f, kCh3_v, kCh3_r, kCh4_s, e_nil, e_cons, kCs1_v, kCs1_r, kCs2_v, kCs2_r, e_tup, kTu1_v, kTu1_r, kTu2_0, kTu2_1, kTu2_2, kTu2_3, kTu2_4, kTu2_5, kTu2_6, kTu2_7, kTu2_8, e_lst, kLi1_v, kLi1_r, kLi2_0, kLi2_1, kLi2_2, kLi2_3, kLi2_4, kLi2_5, kLi2_6, kLi2_7, kLi2_8, datL, Option.map_some, e_call, kCa1_v, kCa1_r, kCa2_o, kCa2_r, e_blt, kBl1_v, kBl1_r, kBl2_s, pl_nil, pl_cons, kPL_s, e_rng1, kR1_v, e_rng2, kR2_v, kR2_r, kR2b_v, e_comp, kC1_v, kC1_r, cl_nil, cl_cons, kCL_y, kCL_n, s_step, kS1_s, kS2_t, kS2_f, kS3_v, t_seq, kSq_n, kSq_t, kSq_r, kSq_b, t_nop, t_asg, kAs1_v, kAs1_r, kAs2_s, t_par, kPa1_v, kPa2_v, par_d, t_ret, kRt_v, kRt_r, t_exp, kEx_v, kEx_r, t_ite, kIt_t, kIt_f, kIt_r, t_rse, t_brk, t_try, kTr_r, kTr_n, kTr_t, t_for, kF1_v, kF1_r, kF2_s, fl_nil, fl_cons, kFL_n, kFL_t, kFL_r, kFL_b, s_for, kSF_s, List.getElem?_cons_zero, List.getElem?_cons_succ, List.set_cons_zero, List.set_cons_succ, List.length_cons, List.length_nil, List.cons_append, List.nil_append, b_add, b_sub, b_mul, b_fdiv, b_mod, c_lt, c_le, c_gt, c_ge, c_eq, c_ne, c_eqi, c_nei, l_tup, l_list, l_abs, sq_t, sq_l, i_t1_0, i_l1_0, i_t2_0, i_l2_0, i_t2_1, i_l2_1, i_t3_0, i_l3_0, i_t3_1, i_l3_1, i_t3_2, i_l3_2, i_t4_0, i_l4_0, i_t4_1, i_l4_1, i_t4_2, i_l4_2, i_t4_3, i_l4_3, i_t5_0, i_l5_0, i_t5_1, i_l5_1, i_t5_2, i_l5_2, i_t5_3, i_l5_3, i_t5_4, i_l5_4, i_t6_0, i_l6_0, i_t6_1, i_l6_1, i_t6_2, i_l6_2, i_t6_3, i_l6_3, i_t6_4, i_l6_4, i_t6_5, i_l6_5, bt_nm, wp_nil, wp_cons, List.replicate, Nat.reduceSub, List.append_nil, Int.reduceLT, Int.reduceLE, Int.reduceBEq, Int.reduceSub, decide_true, decide_false, Bool.not_true, Bool.not_false, Bool.not_not, e_rz, e_rz1, e_ok, e_nx, isc_e, ln0, ln1, ln2, ln3, ln4, lt2, lt4, if_true, if_false, reduceIte, Bool.false_eq_true, bt_nil_t, bt_cons_t, bt_nil_l, bt_cons_l, Option.bind, e_okC, t_asgM, kM1_l, kM2_t, kM1_r, nr_nil, nr_d, nr_u, nr_r, bq_0, bq_0a, bl_1, bl_1z, bl_2, bl_2z, bl_21, bl_c1, bl_c1z, bl_c1y, bl_c1x, bl_c2, bl_c2z, bl_c21, g_1, g_2, g_21, s_1, s_2, s_21, t_apd2, kAp3_u, kAp4_t, kP1_v, kP1_r, kP2_l, kP3_v, kP3_r, e_ok1, e_nx1, e_ok2, e_rz2, e_ok1c, e_ok2c, kC2_u, kC3_t, e_dsel, kD1_v, kD2_v, e_mth, kMt1_v, kMt2_l, kMt3_v, kMt4_s, l_any4, l_all4, ist_s0, ist_i0, tr_bl, is_nn, is_bn, is_in, is_tn, is_ln, is_sn, nb0, nc0, nb1, nc1, nb2, nc2, nb3, nc3, nb4, nc4, nb5, nc5, nb6, nc6, nb7, nc7, nb8, nc8, nb9, nc9, nb10, nc10, nb11, nc11, nb12, nc12, nb13, nc13, nb14, nc14, nb15, nc15, nb16, nc16, nb17, nc17, nb18, nc18, nb19, nc19, nb20, nc20, nb21, nc21, nb22, nc22, nb23, nc23, nb24, nc24, nb25, nc25, nb26, nc26, nb27, nc27, nb28, nc28, nb29, nc29, nb30, nc30, nb31, nc31, nb32, nc32, nb33, nc33, nb34, nc34, nb35, nc35, nb36, nc36, nb37, nc37, nb38, nc38, nb39, nc39, nb40, nc40, r1_0, r1_1, r1_2, r1_3, r1_4, r1_5, r1_6, rgl_1, rgl_2, rgl_3, rgl_4, md_1, md_2, md_3, md_4, qt0, qt1, qt2, qt3, Int.reduceMul, Int.reduceNeg, Int.reduceAdd, Nat.add_zero, Nat.reduceAdd, Bool.true_and, Bool.and_true, Bool.false_and, Bool.and_false, Bool.or_false, Bool.false_or]
      | yes R h0' hR =>
        have R0 : 0 < R := by
          rcases (show R = 0 ∨ 0 < R by omega) with w | w
          · rw [w] at hR
            have := Int.mul_pos pp pq
            omega
          · exact w
        have RL := root_le hp hq h0' hR
        have bR : Bd 30 R := show R.natAbs < 2 ^ 30 by omega
        obtain ⟨L, eL, sL, cL⟩ := v_ex (n := 14) (S := [.live (.lst xs4)]) op oq hd hR R0 bR
        have t0 := to_ok0 (n := 17) eL
        have P1 := ex_pos1 pp hR R0
        have P2 := ex_pos2 pp hR R0
        have hR2 : (0 - R) * (0 - R) = p.pr p * q.pr q := by rw [← hR]; grind
        -- each found one
        have fk : ∀ e : Int, e * e = p.pr p * q.pr q → e.natAbs ≤ 300000 → 0 < (cmb e (p.pr p) p q).pr (cmb e (p.pr p) p q) → okS 4000000 (fpl e p q) ∧ callE LW Pr 19 7 [.d p.t, .d (fpl e p q).t] [.live (.lst xs4)] = some (.ok q.t, [.live (.lst xs4)]) ∧ callE LW Pr 19 7 [.d q.t, .d (fpl e p q).t] [.live (.lst xs4)] = some (.ok p.t, [.live (.lst xs4)]) := fun e he hl hpos => by
          have ok := (tdQ_ok (cmb_le hl hp hq) hpos).1
          have of' := ok.q (by decide)
          obtain ⟨x1, x2⟩ := ex_f hp hq he hpos
          refine ⟨ok, ?_, ?_⟩
          · exact (v_mirrored (n := 15) op of').trans (by rw [td_t]; show some (Cr.ok (tdQ (p.mir (tdQ (cmb e (p.pr p) p q)))).t, _) = _; rw [x1])
          · exact (v_mirrored (n := 15) oq of').trans (by rw [td_t]; show some (Cr.ok (tdQ (q.mir (tdQ (cmb e (p.pr p) p q)))).t, _) = _; rw [x2])
        have me := v_meeting (n := 15) (S := [.live (.lst xs4)]) op oq
        unfold meetV at me
        rw [hd, if_neg (by decide), ← hR] at me
        have gin : tm p g = q → ∃ e : Int, (e = R ∨ e = 0 - R) ∧ 0 < (cmb e (p.pr p) p q).pr (cmb e (p.pr p) p q) ∧ fpl e p q = g := fun h => ex_g hp hq hg hR npq h
        have cg := c_eq (plnQ (p := q)) (plnQ (p := tm p g))
        have mgS := mg [.live (.lst xs4)]
        -- two
        have two : ∀ x y : Q, ((x = fpl R p q ∧ y = fpl (0 - R) p q) ∨ (x = fpl (0 - R) p q ∧ y = fpl R p q)) → 0 - R < p.pr q → p.pr q < R → srtD [x.t, y.t] = some (.lst [x.t, y.t]) → evT LW c9 0 q_6 [.d (.scr ns), .ref 0, .d p.t, .d g.t, .d q.t, .d (.int R), .d (.lst [x.t, y.t]), .un, .un, .un, .un] [.live (.lst xs4)] = some (.nx, [.d (.scr ns), .ref 0, .d p.t, .d g.t, .d q.t, .d (.int R), .d (.lst [x.t, y.t]), .un, .un, .un, .un], [.live (.lst xs4)]) := fun x y hxy m1 m2 sL => by
          obtain ⟨o1, a1, a2⟩ := fk R hR RL (P1.mpr m2)
          obtain ⟨o2, a3, a4⟩ := fk (0 - R) hR2 (by omega) (P2.mpr m1)
          have rt := ex_right hR (P1.mpr m2) (P2.mpr m1)
          have mm : p.pr q * p.pr q < R * R := by
            rw [← abs_sq (r := p.pr q)]
            exact sq_lt (by omega) (by omega)
          rw [if_neg (by omega), if_pos mm] at me
          have ss : bltD LW .srt [.lst [x.t, y.t]] = some (.lst [x.t, y.t]) := sL
          have key : ∀ x y : Q, okS 4000000 x → okS 4000000 y → x.pr y = 0 → callE LW Pr 19 7 [.d p.t, .d x.t] [.live (.lst xs4)] = some (.ok q.t, [.live (.lst xs4)]) → callE LW Pr 19 7 [.d q.t, .d x.t] [.live (.lst xs4)] = some (.ok p.t, [.live (.lst xs4)]) → callE LW Pr 19 7 [.d p.t, .d y.t] [.live (.lst xs4)] = some (.ok q.t, [.live (.lst xs4)]) → callE LW Pr 19 7 [.d q.t, .d y.t] [.live (.lst xs4)] = some (.ok p.t, [.live (.lst xs4)]) → bltD LW .srt [.lst [x.t, y.t]] = some (.lst [x.t, y.t]) → (tm p g = q → g = x ∨ g = y) → evT LW c9 0 q_6 [.d (.scr ns), .ref 0, .d p.t, .d g.t, .d q.t, .d (.int R), .d (.lst [x.t, y.t]), .un, .un, .un, .un] [.live (.lst xs4)] = some (.nx, [.d (.scr ns), .ref 0, .d p.t, .d g.t, .d q.t, .d (.int R), .d (.lst [x.t, y.t]), .un, .un, .un, .un], [.live (.lst xs4)]) := fun x y ox oy r0 b1 b2 b3 b4 ss hg' => by
            have nxy : x ≠ y := fun z => by
              have := ox.pr
              rw [← z] at r0
              have : 0 < x.pr x := this
              omega
            have ns2 : bltD LW .nset [.lst [x.t, y.t]] = some (.int 2) := nset2 nxy
            have ri : callE LW Pr 19 10 [.d x.t, .d y.t] [.live (.lst xs4)] = some (.ok (.bl true), [.live (.lst xs4)]) := (v_is_right (n := 14) (ox.q (by decide)) (oy.q (by decide))).trans (by rw [right_iff ox.pr oy.pr, r0]; rfl)
            cases hm : deq q.t (tm p g).t with
            | true =>
              have i2 := in2 (hg' (dq_iff.mp hm).symm)
              simp only [q_6, c9, ce, hd, ss, ns2, n2, b1, b2, b3, b4, nq, ne_nil, me, w_cc, ri, tr_t, mgS, cg, hm, i2, e_var, kV_d, kV_r, kVr_l, kVr_f, e_arg, kA_d, kA_r, e_lit, pk_d, pk_r, kPr_l, kPr_f, outD_s, outB_s, e_bin, kBin1_v, kBin1_r, kBin2_v, kBin2_r, kBin3_s, e_cmp, kCmp1_v, kCmp1_r, kCmp2_v, kCmp2_r, kCmp3_s, e_idx, kIdx1_v, kIdx1_r, kIdx2_v, kIdx2_r, kIdx3_s, e_neg, kNeg1_v, kNeg1_r, e_tru, kTru1_v, kTru1_r, kNeg2_s, kTru2_s, e_isc, kIsc1_v, kIsc1_r, kIsc2_s, e_and, kAnd_t, kAnd_f, kAnd_r, e_or, kOr_t, kOr_f, kOr_r, e_not, kNot_t, kNot_f, kNot_r, e_ifx, kIfx_t, kIfx_f, kIfx_r, e_chn, kCh1_v, kCh1_r, kCh2_v, kCh2_r, kChP_s, kChB_t, kChB_f, kCh3_v, kCh3_r, kCh4_s, e_nil, e_cons, kCs1_v, kCs1_r, kCs2_v, kCs2_r, e_tup, kTu1_v, kTu1_r, kTu2_0, kTu2_1, kTu2_2, kTu2_3, kTu2_4, kTu2_5, kTu2_6, kTu2_7, kTu2_8, e_lst, kLi1_v, kLi1_r, kLi2_0, kLi2_1, kLi2_2, kLi2_3, kLi2_4, kLi2_5, kLi2_6, kLi2_7, kLi2_8, datL, Option.map_some, e_call, kCa1_v, kCa1_r, kCa2_o, kCa2_r, e_blt, kBl1_v, kBl1_r, kBl2_s, pl_nil, pl_cons, kPL_s, e_rng1, kR1_v, e_rng2, kR2_v, kR2_r, kR2b_v, e_comp, kC1_v, kC1_r, cl_nil, cl_cons, kCL_y, kCL_n, s_step, kS1_s, kS2_t, kS2_f, kS3_v, t_seq, kSq_n, kSq_t, kSq_r, kSq_b, t_nop, t_asg, kAs1_v, kAs1_r, kAs2_s, t_par, kPa1_v, kPa2_v, par_d, t_ret, kRt_v, kRt_r, t_exp, kEx_v, kEx_r, t_ite, kIt_t, kIt_f, kIt_r, t_rse, t_brk, t_try, kTr_r, kTr_n, kTr_t, t_for, kF1_v, kF1_r, kF2_s, fl_nil, fl_cons, kFL_n, kFL_t, kFL_r, kFL_b, s_for, kSF_s, List.getElem?_cons_zero, List.getElem?_cons_succ, List.set_cons_zero, List.set_cons_succ, List.length_cons, List.length_nil, List.cons_append, List.nil_append, b_add, b_sub, b_mul, b_fdiv, b_mod, c_lt, c_le, c_gt, c_ge, c_eq, c_ne, c_eqi, c_nei, l_tup, l_list, l_abs, sq_t, sq_l, i_t1_0, i_l1_0, i_t2_0, i_l2_0, i_t2_1, i_l2_1, i_t3_0, i_l3_0, i_t3_1, i_l3_1, i_t3_2, i_l3_2, i_t4_0, i_l4_0, i_t4_1, i_l4_1, i_t4_2, i_l4_2, i_t4_3, i_l4_3, i_t5_0, i_l5_0, i_t5_1, i_l5_1, i_t5_2, i_l5_2, i_t5_3, i_l5_3, i_t5_4, i_l5_4, i_t6_0, i_l6_0, i_t6_1, i_l6_1, i_t6_2, i_l6_2, i_t6_3, i_l6_3, i_t6_4, i_l6_4, i_t6_5, i_l6_5, bt_nm, wp_nil, wp_cons, List.replicate, Nat.reduceSub, List.append_nil, Int.reduceLT, Int.reduceLE, Int.reduceBEq, Int.reduceSub, decide_true, decide_false, Bool.not_true, Bool.not_false, Bool.not_not, e_rz, e_rz1, e_ok, e_nx, isc_e, ln0, ln1, ln2, ln3, ln4, lt2, lt4, if_true, if_false, reduceIte, Bool.false_eq_true, bt_nil_t, bt_cons_t, bt_nil_l, bt_cons_l, Option.bind, e_okC, t_asgM, kM1_l, kM2_t, kM1_r, nr_nil, nr_d, nr_u, nr_r, bq_0, bq_0a, bl_1, bl_1z, bl_2, bl_2z, bl_21, bl_c1, bl_c1z, bl_c1y, bl_c1x, bl_c2, bl_c2z, bl_c21, g_1, g_2, g_21, s_1, s_2, s_21, t_apd2, kAp3_u, kAp4_t, kP1_v, kP1_r, kP2_l, kP3_v, kP3_r, e_ok1, e_nx1, e_ok2, e_rz2, e_ok1c, e_ok2c, kC2_u, kC3_t, e_dsel, kD1_v, kD2_v, e_mth, kMt1_v, kMt2_l, kMt3_v, kMt4_s, l_any4, l_all4, ist_s0, ist_i0, tr_bl, is_nn, is_bn, is_in, is_tn, is_ln, is_sn, nb0, nc0, nb1, nc1, nb2, nc2, nb3, nc3, nb4, nc4, nb5, nc5, nb6, nc6, nb7, nc7, nb8, nc8, nb9, nc9, nb10, nc10, nb11, nc11, nb12, nc12, nb13, nc13, nb14, nc14, nb15, nc15, nb16, nc16, nb17, nc17, nb18, nc18, nb19, nc19, nb20, nc20, nb21, nc21, nb22, nc22, nb23, nc23, nb24, nc24, nb25, nc25, nb26, nc26, nb27, nc27, nb28, nc28, nb29, nc29, nb30, nc30, nb31, nc31, nb32, nc32, nb33, nc33, nb34, nc34, nb35, nc35, nb36, nc36, nb37, nc37, nb38, nc38, nb39, nc39, nb40, nc40, r1_0, r1_1, r1_2, r1_3, r1_4, r1_5, r1_6, rgl_1, rgl_2, rgl_3, rgl_4, md_1, md_2, md_3, md_4, qt0, qt1, qt2, qt3, Int.reduceMul, Int.reduceNeg, Int.reduceAdd, Nat.add_zero, Nat.reduceAdd, Bool.true_and, Bool.and_true, Bool.false_and, Bool.and_false, Bool.or_false, Bool.false_or]
            | false =>
              simp only [q_6, c9, ce, hd, ss, ns2, n2, b1, b2, b3, b4, nq, ne_nil, me, w_cc, ri, tr_t, mgS, cg, hm, e_var, kV_d, kV_r, kVr_l, kVr_f, e_arg, kA_d, kA_r, e_lit, pk_d, pk_r, kPr_l, kPr_f, outD_s, outB_s, e_bin, kBin1_v, kBin1_r, kBin2_v, kBin2_r, kBin3_s, e_cmp, kCmp1_v, kCmp1_r, kCmp2_v, kCmp2_r, kCmp3_s, e_idx, kIdx1_v, kIdx1_r, kIdx2_v, kIdx2_r, kIdx3_s, e_neg, kNeg1_v, kNeg1_r, e_tru, kTru1_v, kTru1_r, kNeg2_s, kTru2_s, e_isc, kIsc1_v, kIsc1_r, kIsc2_s, e_and, kAnd_t, kAnd_f, kAnd_r, e_or, kOr_t, kOr_f, kOr_r, e_not, kNot_t, kNot_f, kNot_r, e_ifx, kIfx_t, kIfx_f, kIfx_r, e_chn, kCh1_v, kCh1_r, kCh2_v, kCh2_r, kChP_s, kChB_t, kChB_f, kCh3_v, kCh3_r, kCh4_s, e_nil, e_cons, kCs1_v, kCs1_r, kCs2_v, kCs2_r, e_tup, kTu1_v, kTu1_r, kTu2_0, kTu2_1, kTu2_2, kTu2_3, kTu2_4, kTu2_5, kTu2_6, kTu2_7, kTu2_8, e_lst, kLi1_v, kLi1_r, kLi2_0, kLi2_1, kLi2_2, kLi2_3, kLi2_4, kLi2_5, kLi2_6, kLi2_7, kLi2_8, datL, Option.map_some, e_call, kCa1_v, kCa1_r, kCa2_o, kCa2_r, e_blt, kBl1_v, kBl1_r, kBl2_s, pl_nil, pl_cons, kPL_s, e_rng1, kR1_v, e_rng2, kR2_v, kR2_r, kR2b_v, e_comp, kC1_v, kC1_r, cl_nil, cl_cons, kCL_y, kCL_n, s_step, kS1_s, kS2_t, kS2_f, kS3_v, t_seq, kSq_n, kSq_t, kSq_r, kSq_b, t_nop, t_asg, kAs1_v, kAs1_r, kAs2_s, t_par, kPa1_v, kPa2_v, par_d, t_ret, kRt_v, kRt_r, t_exp, kEx_v, kEx_r, t_ite, kIt_t, kIt_f, kIt_r, t_rse, t_brk, t_try, kTr_r, kTr_n, kTr_t, t_for, kF1_v, kF1_r, kF2_s, fl_nil, fl_cons, kFL_n, kFL_t, kFL_r, kFL_b, s_for, kSF_s, List.getElem?_cons_zero, List.getElem?_cons_succ, List.set_cons_zero, List.set_cons_succ, List.length_cons, List.length_nil, List.cons_append, List.nil_append, b_add, b_sub, b_mul, b_fdiv, b_mod, c_lt, c_le, c_gt, c_ge, c_eq, c_ne, c_eqi, c_nei, l_tup, l_list, l_abs, sq_t, sq_l, i_t1_0, i_l1_0, i_t2_0, i_l2_0, i_t2_1, i_l2_1, i_t3_0, i_l3_0, i_t3_1, i_l3_1, i_t3_2, i_l3_2, i_t4_0, i_l4_0, i_t4_1, i_l4_1, i_t4_2, i_l4_2, i_t4_3, i_l4_3, i_t5_0, i_l5_0, i_t5_1, i_l5_1, i_t5_2, i_l5_2, i_t5_3, i_l5_3, i_t5_4, i_l5_4, i_t6_0, i_l6_0, i_t6_1, i_l6_1, i_t6_2, i_l6_2, i_t6_3, i_l6_3, i_t6_4, i_l6_4, i_t6_5, i_l6_5, bt_nm, wp_nil, wp_cons, List.replicate, Nat.reduceSub, List.append_nil, Int.reduceLT, Int.reduceLE, Int.reduceBEq, Int.reduceSub, decide_true, decide_false, Bool.not_true, Bool.not_false, Bool.not_not, e_rz, e_rz1, e_ok, e_nx, isc_e, ln0, ln1, ln2, ln3, ln4, lt2, lt4, if_true, if_false, reduceIte, Bool.false_eq_true, bt_nil_t, bt_cons_t, bt_nil_l, bt_cons_l, Option.bind, e_okC, t_asgM, kM1_l, kM2_t, kM1_r, nr_nil, nr_d, nr_u, nr_r, bq_0, bq_0a, bl_1, bl_1z, bl_2, bl_2z, bl_21, bl_c1, bl_c1z, bl_c1y, bl_c1x, bl_c2, bl_c2z, bl_c21, g_1, g_2, g_21, s_1, s_2, s_21, t_apd2, kAp3_u, kAp4_t, kP1_v, kP1_r, kP2_l, kP3_v, kP3_r, e_ok1, e_nx1, e_ok2, e_rz2, e_ok1c, e_ok2c, kC2_u, kC3_t, e_dsel, kD1_v, kD2_v, e_mth, kMt1_v, kMt2_l, kMt3_v, kMt4_s, l_any4, l_all4, ist_s0, ist_i0, tr_bl, is_nn, is_bn, is_in, is_tn, is_ln, is_sn, nb0, nc0, nb1, nc1, nb2, nc2, nb3, nc3, nb4, nc4, nb5, nc5, nb6, nc6, nb7, nc7, nb8, nc8, nb9, nc9, nb10, nc10, nb11, nc11, nb12, nc12, nb13, nc13, nb14, nc14, nb15, nc15, nb16, nc16, nb17, nc17, nb18, nc18, nb19, nc19, nb20, nc20, nb21, nc21, nb22, nc22, nb23, nc23, nb24, nc24, nb25, nc25, nb26, nc26, nb27, nc27, nb28, nc28, nb29, nc29, nb30, nc30, nb31, nc31, nb32, nc32, nb33, nc33, nb34, nc34, nb35, nc35, nb36, nc36, nb37, nc37, nb38, nc38, nb39, nc39, nb40, nc40, r1_0, r1_1, r1_2, r1_3, r1_4, r1_5, r1_6, rgl_1, rgl_2, rgl_3, rgl_4, md_1, md_2, md_3, md_4, qt0, qt1, qt2, qt3, Int.reduceMul, Int.reduceNeg, Int.reduceAdd, Nat.add_zero, Nat.reduceAdd, Bool.true_and, Bool.and_true, Bool.false_and, Bool.and_false, Bool.or_false, Bool.false_or]
          have gg : tm p g = q → g = fpl R p q ∨ g = fpl (0 - R) p q := fun h => by
            obtain ⟨e, he, -, e2⟩ := gin h
            rcases he with rfl | rfl
            · exact .inl e2.symm
            · exact .inr e2.symm
          rcases hxy with ⟨rfl, rfl⟩ | ⟨rfl, rfl⟩
          · exact key _ _ o1 o2 rt a1 a2 a3 a4 ss gg
          · exact key _ _ o2 o1 (by rw [pr_comm]; exact rt) a3 a4 a1 a2 ss fun h => (gg h).symm
        -- one
        have one : ∀ x : Q, okS 4000000 x → callE LW Pr 19 7 [.d p.t, .d x.t] [.live (.lst xs4)] = some (.ok q.t, [.live (.lst xs4)]) → callE LW Pr 19 7 [.d q.t, .d x.t] [.live (.lst xs4)] = some (.ok p.t, [.live (.lst xs4)]) → ¬ p.pr q * p.pr q < R * R → (tm p g = q → g = x) → evT LW c9 0 q_6 [.d (.scr ns), .ref 0, .d p.t, .d g.t, .d q.t, .d (.int R), .d (.lst [x.t]), .un, .un, .un, .un] [.live (.lst xs4)] = some (.nx, [.d (.scr ns), .ref 0, .d p.t, .d g.t, .d q.t, .d (.int R), .d (.lst [x.t]), .un, .un, .un, .un], [.live (.lst xs4)]) := fun x ox b1 b2 hm2 hg' => by
          have ss : bltD LW .srt [.lst [x.t]] = some (.lst [x.t]) := srt1
          have ns1 : bltD LW .nset [.lst [x.t]] = some (.int 1) := nset1
          have mw : ∃ wd : D, callE LW Pr 19 8 [.d p.t, .d q.t] [.live (.lst xs4)] = some (.ok wd, [.live (.lst xs4)]) ∧ cmpD .eq wd (.str "cross") = some false := by
            by_cases e : p.pr q * p.pr q = R * R
            · rw [if_pos e] at me
              exact ⟨_, me, w_tc⟩
            · rw [if_neg e, if_neg hm2] at me
              exact ⟨_, me, w_ac⟩
          obtain ⟨wd, me, wq⟩ := mw
          cases hm : deq q.t (tm p g).t with
          | true =>
            have i1 : cmpD .nin g.t (.lst [x.t]) = some false := by rw [hg' (dq_iff.mp hm).symm]; exact in1
            simp only [q_6, c9, ce, hd, ss, ns1, n1, b1, b2, nq, ne_nil, me, wq, mgS, cg, hm, i1, e_var, kV_d, kV_r, kVr_l, kVr_f, e_arg, kA_d, kA_r, e_lit, pk_d, pk_r, kPr_l, kPr_f, outD_s, outB_s, e_bin, kBin1_v, kBin1_r, kBin2_v, kBin2_r, kBin3_s, e_cmp, kCmp1_v, kCmp1_r, kCmp2_v, kCmp2_r, kCmp3_s, e_idx, kIdx1_v, kIdx1_r, kIdx2_v, kIdx2_r, kIdx3_s, e_neg, kNeg1_v, kNeg1_r, e_tru, kTru1_v, kTru1_r, kNeg2_s, kTru2_s, e_isc, kIsc1_v, kIsc1_r, kIsc2_s, e_and, kAnd_t, kAnd_f, kAnd_r, e_or, kOr_t, kOr_f, kOr_r, e_not, kNot_t, kNot_f, kNot_r, e_ifx, kIfx_t, kIfx_f, kIfx_r, e_chn, kCh1_v, kCh1_r, kCh2_v, kCh2_r, kChP_s, kChB_t, kChB_f, kCh3_v, kCh3_r, kCh4_s, e_nil, e_cons, kCs1_v, kCs1_r, kCs2_v, kCs2_r, e_tup, kTu1_v, kTu1_r, kTu2_0, kTu2_1, kTu2_2, kTu2_3, kTu2_4, kTu2_5, kTu2_6, kTu2_7, kTu2_8, e_lst, kLi1_v, kLi1_r, kLi2_0, kLi2_1, kLi2_2, kLi2_3, kLi2_4, kLi2_5, kLi2_6, kLi2_7, kLi2_8, datL, Option.map_some, e_call, kCa1_v, kCa1_r, kCa2_o, kCa2_r, e_blt, kBl1_v, kBl1_r, kBl2_s, pl_nil, pl_cons, kPL_s, e_rng1, kR1_v, e_rng2, kR2_v, kR2_r, kR2b_v, e_comp, kC1_v, kC1_r, cl_nil, cl_cons, kCL_y, kCL_n, s_step, kS1_s, kS2_t, kS2_f, kS3_v, t_seq, kSq_n, kSq_t, kSq_r, kSq_b, t_nop, t_asg, kAs1_v, kAs1_r, kAs2_s, t_par, kPa1_v, kPa2_v, par_d, t_ret, kRt_v, kRt_r, t_exp, kEx_v, kEx_r, t_ite, kIt_t, kIt_f, kIt_r, t_rse, t_brk, t_try, kTr_r, kTr_n, kTr_t, t_for, kF1_v, kF1_r, kF2_s, fl_nil, fl_cons, kFL_n, kFL_t, kFL_r, kFL_b, s_for, kSF_s, List.getElem?_cons_zero, List.getElem?_cons_succ, List.set_cons_zero, List.set_cons_succ, List.length_cons, List.length_nil, List.cons_append, List.nil_append, b_add, b_sub, b_mul, b_fdiv, b_mod, c_lt, c_le, c_gt, c_ge, c_eq, c_ne, c_eqi, c_nei, l_tup, l_list, l_abs, sq_t, sq_l, i_t1_0, i_l1_0, i_t2_0, i_l2_0, i_t2_1, i_l2_1, i_t3_0, i_l3_0, i_t3_1, i_l3_1, i_t3_2, i_l3_2, i_t4_0, i_l4_0, i_t4_1, i_l4_1, i_t4_2, i_l4_2, i_t4_3, i_l4_3, i_t5_0, i_l5_0, i_t5_1, i_l5_1, i_t5_2, i_l5_2, i_t5_3, i_l5_3, i_t5_4, i_l5_4, i_t6_0, i_l6_0, i_t6_1, i_l6_1, i_t6_2, i_l6_2, i_t6_3, i_l6_3, i_t6_4, i_l6_4, i_t6_5, i_l6_5, bt_nm, wp_nil, wp_cons, List.replicate, Nat.reduceSub, List.append_nil, Int.reduceLT, Int.reduceLE, Int.reduceBEq, Int.reduceSub, decide_true, decide_false, Bool.not_true, Bool.not_false, Bool.not_not, e_rz, e_rz1, e_ok, e_nx, isc_e, ln0, ln1, ln2, ln3, ln4, lt2, lt4, if_true, if_false, reduceIte, Bool.false_eq_true, bt_nil_t, bt_cons_t, bt_nil_l, bt_cons_l, Option.bind, e_okC, t_asgM, kM1_l, kM2_t, kM1_r, nr_nil, nr_d, nr_u, nr_r, bq_0, bq_0a, bl_1, bl_1z, bl_2, bl_2z, bl_21, bl_c1, bl_c1z, bl_c1y, bl_c1x, bl_c2, bl_c2z, bl_c21, g_1, g_2, g_21, s_1, s_2, s_21, t_apd2, kAp3_u, kAp4_t, kP1_v, kP1_r, kP2_l, kP3_v, kP3_r, e_ok1, e_nx1, e_ok2, e_rz2, e_ok1c, e_ok2c, kC2_u, kC3_t, e_dsel, kD1_v, kD2_v, e_mth, kMt1_v, kMt2_l, kMt3_v, kMt4_s, l_any4, l_all4, ist_s0, ist_i0, tr_bl, is_nn, is_bn, is_in, is_tn, is_ln, is_sn, nb0, nc0, nb1, nc1, nb2, nc2, nb3, nc3, nb4, nc4, nb5, nc5, nb6, nc6, nb7, nc7, nb8, nc8, nb9, nc9, nb10, nc10, nb11, nc11, nb12, nc12, nb13, nc13, nb14, nc14, nb15, nc15, nb16, nc16, nb17, nc17, nb18, nc18, nb19, nc19, nb20, nc20, nb21, nc21, nb22, nc22, nb23, nc23, nb24, nc24, nb25, nc25, nb26, nc26, nb27, nc27, nb28, nc28, nb29, nc29, nb30, nc30, nb31, nc31, nb32, nc32, nb33, nc33, nb34, nc34, nb35, nc35, nb36, nc36, nb37, nc37, nb38, nc38, nb39, nc39, nb40, nc40, r1_0, r1_1, r1_2, r1_3, r1_4, r1_5, r1_6, rgl_1, rgl_2, rgl_3, rgl_4, md_1, md_2, md_3, md_4, qt0, qt1, qt2, qt3, Int.reduceMul, Int.reduceNeg, Int.reduceAdd, Nat.add_zero, Nat.reduceAdd, Bool.true_and, Bool.and_true, Bool.false_and, Bool.and_false, Bool.or_false, Bool.false_or]
          | false =>
            simp only [q_6, c9, ce, hd, ss, ns1, n1, b1, b2, nq, ne_nil, me, wq, mgS, cg, hm, e_var, kV_d, kV_r, kVr_l, kVr_f, e_arg, kA_d, kA_r, e_lit, pk_d, pk_r, kPr_l, kPr_f, outD_s, outB_s, e_bin, kBin1_v, kBin1_r, kBin2_v, kBin2_r, kBin3_s, e_cmp, kCmp1_v, kCmp1_r, kCmp2_v, kCmp2_r, kCmp3_s, e_idx, kIdx1_v, kIdx1_r, kIdx2_v, kIdx2_r, kIdx3_s, e_neg, kNeg1_v, kNeg1_r, e_tru, kTru1_v, kTru1_r, kNeg2_s, kTru2_s, e_isc, kIsc1_v, kIsc1_r, kIsc2_s, e_and, kAnd_t, kAnd_f, kAnd_r, e_or, kOr_t, kOr_f, kOr_r, e_not, kNot_t, kNot_f, kNot_r, e_ifx, kIfx_t, kIfx_f, kIfx_r, e_chn, kCh1_v, kCh1_r, kCh2_v, kCh2_r, kChP_s, kChB_t, kChB_f, kCh3_v, kCh3_r, kCh4_s, e_nil, e_cons, kCs1_v, kCs1_r, kCs2_v, kCs2_r, e_tup, kTu1_v, kTu1_r, kTu2_0, kTu2_1, kTu2_2, kTu2_3, kTu2_4, kTu2_5, kTu2_6, kTu2_7, kTu2_8, e_lst, kLi1_v, kLi1_r, kLi2_0, kLi2_1, kLi2_2, kLi2_3, kLi2_4, kLi2_5, kLi2_6, kLi2_7, kLi2_8, datL, Option.map_some, e_call, kCa1_v, kCa1_r, kCa2_o, kCa2_r, e_blt, kBl1_v, kBl1_r, kBl2_s, pl_nil, pl_cons, kPL_s, e_rng1, kR1_v, e_rng2, kR2_v, kR2_r, kR2b_v, e_comp, kC1_v, kC1_r, cl_nil, cl_cons, kCL_y, kCL_n, s_step, kS1_s, kS2_t, kS2_f, kS3_v, t_seq, kSq_n, kSq_t, kSq_r, kSq_b, t_nop, t_asg, kAs1_v, kAs1_r, kAs2_s, t_par, kPa1_v, kPa2_v, par_d, t_ret, kRt_v, kRt_r, t_exp, kEx_v, kEx_r, t_ite, kIt_t, kIt_f, kIt_r, t_rse, t_brk, t_try, kTr_r, kTr_n, kTr_t, t_for, kF1_v, kF1_r, kF2_s, fl_nil, fl_cons, kFL_n, kFL_t, kFL_r, kFL_b, s_for, kSF_s, List.getElem?_cons_zero, List.getElem?_cons_succ, List.set_cons_zero, List.set_cons_succ, List.length_cons, List.length_nil, List.cons_append, List.nil_append, b_add, b_sub, b_mul, b_fdiv, b_mod, c_lt, c_le, c_gt, c_ge, c_eq, c_ne, c_eqi, c_nei, l_tup, l_list, l_abs, sq_t, sq_l, i_t1_0, i_l1_0, i_t2_0, i_l2_0, i_t2_1, i_l2_1, i_t3_0, i_l3_0, i_t3_1, i_l3_1, i_t3_2, i_l3_2, i_t4_0, i_l4_0, i_t4_1, i_l4_1, i_t4_2, i_l4_2, i_t4_3, i_l4_3, i_t5_0, i_l5_0, i_t5_1, i_l5_1, i_t5_2, i_l5_2, i_t5_3, i_l5_3, i_t5_4, i_l5_4, i_t6_0, i_l6_0, i_t6_1, i_l6_1, i_t6_2, i_l6_2, i_t6_3, i_l6_3, i_t6_4, i_l6_4, i_t6_5, i_l6_5, bt_nm, wp_nil, wp_cons, List.replicate, Nat.reduceSub, List.append_nil, Int.reduceLT, Int.reduceLE, Int.reduceBEq, Int.reduceSub, decide_true, decide_false, Bool.not_true, Bool.not_false, Bool.not_not, e_rz, e_rz1, e_ok, e_nx, isc_e, ln0, ln1, ln2, ln3, ln4, lt2, lt4, if_true, if_false, reduceIte, Bool.false_eq_true, bt_nil_t, bt_cons_t, bt_nil_l, bt_cons_l, Option.bind, e_okC, t_asgM, kM1_l, kM2_t, kM1_r, nr_nil, nr_d, nr_u, nr_r, bq_0, bq_0a, bl_1, bl_1z, bl_2, bl_2z, bl_21, bl_c1, bl_c1z, bl_c1y, bl_c1x, bl_c2, bl_c2z, bl_c21, g_1, g_2, g_21, s_1, s_2, s_21, t_apd2, kAp3_u, kAp4_t, kP1_v, kP1_r, kP2_l, kP3_v, kP3_r, e_ok1, e_nx1, e_ok2, e_rz2, e_ok1c, e_ok2c, kC2_u, kC3_t, e_dsel, kD1_v, kD2_v, e_mth, kMt1_v, kMt2_l, kMt3_v, kMt4_s, l_any4, l_all4, ist_s0, ist_i0, tr_bl, is_nn, is_bn, is_in, is_tn, is_ln, is_sn, nb0, nc0, nb1, nc1, nb2, nc2, nb3, nc3, nb4, nc4, nb5, nc5, nb6, nc6, nb7, nc7, nb8, nc8, nb9, nc9, nb10, nc10, nb11, nc11, nb12, nc12, nb13, nc13, nb14, nc14, nb15, nc15, nb16, nc16, nb17, nc17, nb18, nc18, nb19, nc19, nb20, nc20, nb21, nc21, nb22, nc22, nb23, nc23, nb24, nc24, nb25, nc25, nb26, nc26, nb27, nc27, nb28, nc28, nb29, nc29, nb30, nc30, nb31, nc31, nb32, nc32, nb33, nc33, nb34, nc34, nb35, nc35, nb36, nc36, nb37, nc37, nb38, nc38, nb39, nc39, nb40, nc40, r1_0, r1_1, r1_2, r1_3, r1_4, r1_5, r1_6, rgl_1, rgl_2, rgl_3, rgl_4, md_1, md_2, md_3, md_4, qt0, qt1, qt2, qt3, Int.reduceMul, Int.reduceNeg, Int.reduceAdd, Nat.add_zero, Nat.reduceAdd, Bool.true_and, Bool.and_true, Bool.false_and, Bool.and_false, Bool.or_false, Bool.false_or]
        rcases cL with ⟨m1, m2, hL⟩ | ⟨m1, rfl⟩ | ⟨m1, rfl⟩
        · rcases hL with rfl | rfl
          · simp only [List.map_cons, List.map_nil] at t0 sL
            exact ⟨.lst [(fpl R p q).t, (fpl (0 - R) p q).t], by simp only [q_5, c9, t0, e_var, kV_d, kV_r, kVr_l, kVr_f, e_arg, kA_d, kA_r, e_lit, pk_d, pk_r, kPr_l, kPr_f, outD_s, outB_s, e_bin, kBin1_v, kBin1_r, kBin2_v, kBin2_r, kBin3_s, e_cmp, kCmp1_v, kCmp1_r, kCmp2_v, kCmp2_r, kCmp3_s, e_idx, kIdx1_v, kIdx1_r, kIdx2_v, kIdx2_r, kIdx3_s, e_neg, kNeg1_v, kNeg1_r, e_tru, kTru1_v, kTru1_r, kNeg2_s, kTru2_s, e_isc, kIsc1_v, kIsc1_r, kIsc2_s, e_and, kAnd_t, kAnd_f, kAnd_r, e_or, kOr_t, kOr_f, kOr_r, e_not, kNot_t, kNot_f, kNot_r, e_ifx, kIfx_t, kIfx_f, kIfx_r, e_chn, kCh1_v, kCh1_r, kCh2_v, kCh2_r, kChP_s, kChB_t, kChB_f, kCh3_v, kCh3_r, kCh4_s, e_nil, e_cons, kCs1_v, kCs1_r, kCs2_v, kCs2_r, e_tup, kTu1_v, kTu1_r, kTu2_0, kTu2_1, kTu2_2, kTu2_3, kTu2_4, kTu2_5, kTu2_6, kTu2_7, kTu2_8, e_lst, kLi1_v, kLi1_r, kLi2_0, kLi2_1, kLi2_2, kLi2_3, kLi2_4, kLi2_5, kLi2_6, kLi2_7, kLi2_8, datL, Option.map_some, e_call, kCa1_v, kCa1_r, kCa2_o, kCa2_r, e_blt, kBl1_v, kBl1_r, kBl2_s, pl_nil, pl_cons, kPL_s, e_rng1, kR1_v, e_rng2, kR2_v, kR2_r, kR2b_v, e_comp, kC1_v, kC1_r, cl_nil, cl_cons, kCL_y, kCL_n, s_step, kS1_s, kS2_t, kS2_f, kS3_v, t_seq, kSq_n, kSq_t, kSq_r, kSq_b, t_nop, t_asg, kAs1_v, kAs1_r, kAs2_s, t_par, kPa1_v, kPa2_v, par_d, t_ret, kRt_v, kRt_r, t_exp, kEx_v, kEx_r, t_ite, kIt_t, kIt_f, kIt_r, t_rse, t_brk, t_try, kTr_r, kTr_n, kTr_t, t_for, kF1_v, kF1_r, kF2_s, fl_nil, fl_cons, kFL_n, kFL_t, kFL_r, kFL_b, s_for, kSF_s, List.getElem?_cons_zero, List.getElem?_cons_succ, List.set_cons_zero, List.set_cons_succ, List.length_cons, List.length_nil, List.cons_append, List.nil_append, b_add, b_sub, b_mul, b_fdiv, b_mod, c_lt, c_le, c_gt, c_ge, c_eq, c_ne, c_eqi, c_nei, l_tup, l_list, l_abs, sq_t, sq_l, i_t1_0, i_l1_0, i_t2_0, i_l2_0, i_t2_1, i_l2_1, i_t3_0, i_l3_0, i_t3_1, i_l3_1, i_t3_2, i_l3_2, i_t4_0, i_l4_0, i_t4_1, i_l4_1, i_t4_2, i_l4_2, i_t4_3, i_l4_3, i_t5_0, i_l5_0, i_t5_1, i_l5_1, i_t5_2, i_l5_2, i_t5_3, i_l5_3, i_t5_4, i_l5_4, i_t6_0, i_l6_0, i_t6_1, i_l6_1, i_t6_2, i_l6_2, i_t6_3, i_l6_3, i_t6_4, i_l6_4, i_t6_5, i_l6_5, bt_nm, wp_nil, wp_cons, List.replicate, Nat.reduceSub, List.append_nil, Int.reduceLT, Int.reduceLE, Int.reduceBEq, Int.reduceSub, decide_true, decide_false, Bool.not_true, Bool.not_false, Bool.not_not, e_rz, e_rz1, e_ok, e_nx, isc_e, ln0, ln1, ln2, ln3, ln4, lt2, lt4, if_true, if_false, reduceIte, Bool.false_eq_true, bt_nil_t, bt_cons_t, bt_nil_l, bt_cons_l, Option.bind, e_okC, t_asgM, kM1_l, kM2_t, kM1_r, nr_nil, nr_d, nr_u, nr_r, bq_0, bq_0a, bl_1, bl_1z, bl_2, bl_2z, bl_21, bl_c1, bl_c1z, bl_c1y, bl_c1x, bl_c2, bl_c2z, bl_c21, g_1, g_2, g_21, s_1, s_2, s_21, t_apd2, kAp3_u, kAp4_t, kP1_v, kP1_r, kP2_l, kP3_v, kP3_r, e_ok1, e_nx1, e_ok2, e_rz2, e_ok1c, e_ok2c, kC2_u, kC3_t, e_dsel, kD1_v, kD2_v, e_mth, kMt1_v, kMt2_l, kMt3_v, kMt4_s, l_any4, l_all4, ist_s0, ist_i0, tr_bl, is_nn, is_bn, is_in, is_tn, is_ln, is_sn, nb0, nc0, nb1, nc1, nb2, nc2, nb3, nc3, nb4, nc4, nb5, nc5, nb6, nc6, nb7, nc7, nb8, nc8, nb9, nc9, nb10, nc10, nb11, nc11, nb12, nc12, nb13, nc13, nb14, nc14, nb15, nc15, nb16, nc16, nb17, nc17, nb18, nc18, nb19, nc19, nb20, nc20, nb21, nc21, nb22, nc22, nb23, nc23, nb24, nc24, nb25, nc25, nb26, nc26, nb27, nc27, nb28, nc28, nb29, nc29, nb30, nc30, nb31, nc31, nb32, nc32, nb33, nc33, nb34, nc34, nb35, nc35, nb36, nc36, nb37, nc37, nb38, nc38, nb39, nc39, nb40, nc40, r1_0, r1_1, r1_2, r1_3, r1_4, r1_5, r1_6, rgl_1, rgl_2, rgl_3, rgl_4, md_1, md_2, md_3, md_4, qt0, qt1, qt2, qt3, Int.reduceMul, Int.reduceNeg, Int.reduceAdd, Nat.add_zero, Nat.reduceAdd, Bool.true_and, Bool.and_true, Bool.false_and, Bool.and_false, Bool.or_false, Bool.false_or], two _ _ (.inl ⟨rfl, rfl⟩) m1 m2 sL⟩
          · simp only [List.map_cons, List.map_nil] at t0 sL
            exact ⟨.lst [(fpl (0 - R) p q).t, (fpl R p q).t], by simp only [q_5, c9, t0, e_var, kV_d, kV_r, kVr_l, kVr_f, e_arg, kA_d, kA_r, e_lit, pk_d, pk_r, kPr_l, kPr_f, outD_s, outB_s, e_bin, kBin1_v, kBin1_r, kBin2_v, kBin2_r, kBin3_s, e_cmp, kCmp1_v, kCmp1_r, kCmp2_v, kCmp2_r, kCmp3_s, e_idx, kIdx1_v, kIdx1_r, kIdx2_v, kIdx2_r, kIdx3_s, e_neg, kNeg1_v, kNeg1_r, e_tru, kTru1_v, kTru1_r, kNeg2_s, kTru2_s, e_isc, kIsc1_v, kIsc1_r, kIsc2_s, e_and, kAnd_t, kAnd_f, kAnd_r, e_or, kOr_t, kOr_f, kOr_r, e_not, kNot_t, kNot_f, kNot_r, e_ifx, kIfx_t, kIfx_f, kIfx_r, e_chn, kCh1_v, kCh1_r, kCh2_v, kCh2_r, kChP_s, kChB_t, kChB_f, kCh3_v, kCh3_r, kCh4_s, e_nil, e_cons, kCs1_v, kCs1_r, kCs2_v, kCs2_r, e_tup, kTu1_v, kTu1_r, kTu2_0, kTu2_1, kTu2_2, kTu2_3, kTu2_4, kTu2_5, kTu2_6, kTu2_7, kTu2_8, e_lst, kLi1_v, kLi1_r, kLi2_0, kLi2_1, kLi2_2, kLi2_3, kLi2_4, kLi2_5, kLi2_6, kLi2_7, kLi2_8, datL, Option.map_some, e_call, kCa1_v, kCa1_r, kCa2_o, kCa2_r, e_blt, kBl1_v, kBl1_r, kBl2_s, pl_nil, pl_cons, kPL_s, e_rng1, kR1_v, e_rng2, kR2_v, kR2_r, kR2b_v, e_comp, kC1_v, kC1_r, cl_nil, cl_cons, kCL_y, kCL_n, s_step, kS1_s, kS2_t, kS2_f, kS3_v, t_seq, kSq_n, kSq_t, kSq_r, kSq_b, t_nop, t_asg, kAs1_v, kAs1_r, kAs2_s, t_par, kPa1_v, kPa2_v, par_d, t_ret, kRt_v, kRt_r, t_exp, kEx_v, kEx_r, t_ite, kIt_t, kIt_f, kIt_r, t_rse, t_brk, t_try, kTr_r, kTr_n, kTr_t, t_for, kF1_v, kF1_r, kF2_s, fl_nil, fl_cons, kFL_n, kFL_t, kFL_r, kFL_b, s_for, kSF_s, List.getElem?_cons_zero, List.getElem?_cons_succ, List.set_cons_zero, List.set_cons_succ, List.length_cons, List.length_nil, List.cons_append, List.nil_append, b_add, b_sub, b_mul, b_fdiv, b_mod, c_lt, c_le, c_gt, c_ge, c_eq, c_ne, c_eqi, c_nei, l_tup, l_list, l_abs, sq_t, sq_l, i_t1_0, i_l1_0, i_t2_0, i_l2_0, i_t2_1, i_l2_1, i_t3_0, i_l3_0, i_t3_1, i_l3_1, i_t3_2, i_l3_2, i_t4_0, i_l4_0, i_t4_1, i_l4_1, i_t4_2, i_l4_2, i_t4_3, i_l4_3, i_t5_0, i_l5_0, i_t5_1, i_l5_1, i_t5_2, i_l5_2, i_t5_3, i_l5_3, i_t5_4, i_l5_4, i_t6_0, i_l6_0, i_t6_1, i_l6_1, i_t6_2, i_l6_2, i_t6_3, i_l6_3, i_t6_4, i_l6_4, i_t6_5, i_l6_5, bt_nm, wp_nil, wp_cons, List.replicate, Nat.reduceSub, List.append_nil, Int.reduceLT, Int.reduceLE, Int.reduceBEq, Int.reduceSub, decide_true, decide_false, Bool.not_true, Bool.not_false, Bool.not_not, e_rz, e_rz1, e_ok, e_nx, isc_e, ln0, ln1, ln2, ln3, ln4, lt2, lt4, if_true, if_false, reduceIte, Bool.false_eq_true, bt_nil_t, bt_cons_t, bt_nil_l, bt_cons_l, Option.bind, e_okC, t_asgM, kM1_l, kM2_t, kM1_r, nr_nil, nr_d, nr_u, nr_r, bq_0, bq_0a, bl_1, bl_1z, bl_2, bl_2z, bl_21, bl_c1, bl_c1z, bl_c1y, bl_c1x, bl_c2, bl_c2z, bl_c21, g_1, g_2, g_21, s_1, s_2, s_21, t_apd2, kAp3_u, kAp4_t, kP1_v, kP1_r, kP2_l, kP3_v, kP3_r, e_ok1, e_nx1, e_ok2, e_rz2, e_ok1c, e_ok2c, kC2_u, kC3_t, e_dsel, kD1_v, kD2_v, e_mth, kMt1_v, kMt2_l, kMt3_v, kMt4_s, l_any4, l_all4, ist_s0, ist_i0, tr_bl, is_nn, is_bn, is_in, is_tn, is_ln, is_sn, nb0, nc0, nb1, nc1, nb2, nc2, nb3, nc3, nb4, nc4, nb5, nc5, nb6, nc6, nb7, nc7, nb8, nc8, nb9, nc9, nb10, nc10, nb11, nc11, nb12, nc12, nb13, nc13, nb14, nc14, nb15, nc15, nb16, nc16, nb17, nc17, nb18, nc18, nb19, nc19, nb20, nc20, nb21, nc21, nb22, nc22, nb23, nc23, nb24, nc24, nb25, nc25, nb26, nc26, nb27, nc27, nb28, nc28, nb29, nc29, nb30, nc30, nb31, nc31, nb32, nc32, nb33, nc33, nb34, nc34, nb35, nc35, nb36, nc36, nb37, nc37, nb38, nc38, nb39, nc39, nb40, nc40, r1_0, r1_1, r1_2, r1_3, r1_4, r1_5, r1_6, rgl_1, rgl_2, rgl_3, rgl_4, md_1, md_2, md_3, md_4, qt0, qt1, qt2, qt3, Int.reduceMul, Int.reduceNeg, Int.reduceAdd, Nat.add_zero, Nat.reduceAdd, Bool.true_and, Bool.and_true, Bool.false_and, Bool.and_false, Bool.or_false, Bool.false_or], two _ _ (.inr ⟨rfl, rfl⟩) m1 m2 sL⟩
        · obtain ⟨o2, a3, a4⟩ := fk (0 - R) hR2 (by omega) (P2.mpr (by omega))
          simp only [List.map_cons, List.map_nil] at t0
          refine ⟨.lst [(fpl (0 - R) p q).t], by simp only [q_5, c9, t0, e_var, kV_d, kV_r, kVr_l, kVr_f, e_arg, kA_d, kA_r, e_lit, pk_d, pk_r, kPr_l, kPr_f, outD_s, outB_s, e_bin, kBin1_v, kBin1_r, kBin2_v, kBin2_r, kBin3_s, e_cmp, kCmp1_v, kCmp1_r, kCmp2_v, kCmp2_r, kCmp3_s, e_idx, kIdx1_v, kIdx1_r, kIdx2_v, kIdx2_r, kIdx3_s, e_neg, kNeg1_v, kNeg1_r, e_tru, kTru1_v, kTru1_r, kNeg2_s, kTru2_s, e_isc, kIsc1_v, kIsc1_r, kIsc2_s, e_and, kAnd_t, kAnd_f, kAnd_r, e_or, kOr_t, kOr_f, kOr_r, e_not, kNot_t, kNot_f, kNot_r, e_ifx, kIfx_t, kIfx_f, kIfx_r, e_chn, kCh1_v, kCh1_r, kCh2_v, kCh2_r, kChP_s, kChB_t, kChB_f, kCh3_v, kCh3_r, kCh4_s, e_nil, e_cons, kCs1_v, kCs1_r, kCs2_v, kCs2_r, e_tup, kTu1_v, kTu1_r, kTu2_0, kTu2_1, kTu2_2, kTu2_3, kTu2_4, kTu2_5, kTu2_6, kTu2_7, kTu2_8, e_lst, kLi1_v, kLi1_r, kLi2_0, kLi2_1, kLi2_2, kLi2_3, kLi2_4, kLi2_5, kLi2_6, kLi2_7, kLi2_8, datL, Option.map_some, e_call, kCa1_v, kCa1_r, kCa2_o, kCa2_r, e_blt, kBl1_v, kBl1_r, kBl2_s, pl_nil, pl_cons, kPL_s, e_rng1, kR1_v, e_rng2, kR2_v, kR2_r, kR2b_v, e_comp, kC1_v, kC1_r, cl_nil, cl_cons, kCL_y, kCL_n, s_step, kS1_s, kS2_t, kS2_f, kS3_v, t_seq, kSq_n, kSq_t, kSq_r, kSq_b, t_nop, t_asg, kAs1_v, kAs1_r, kAs2_s, t_par, kPa1_v, kPa2_v, par_d, t_ret, kRt_v, kRt_r, t_exp, kEx_v, kEx_r, t_ite, kIt_t, kIt_f, kIt_r, t_rse, t_brk, t_try, kTr_r, kTr_n, kTr_t, t_for, kF1_v, kF1_r, kF2_s, fl_nil, fl_cons, kFL_n, kFL_t, kFL_r, kFL_b, s_for, kSF_s, List.getElem?_cons_zero, List.getElem?_cons_succ, List.set_cons_zero, List.set_cons_succ, List.length_cons, List.length_nil, List.cons_append, List.nil_append, b_add, b_sub, b_mul, b_fdiv, b_mod, c_lt, c_le, c_gt, c_ge, c_eq, c_ne, c_eqi, c_nei, l_tup, l_list, l_abs, sq_t, sq_l, i_t1_0, i_l1_0, i_t2_0, i_l2_0, i_t2_1, i_l2_1, i_t3_0, i_l3_0, i_t3_1, i_l3_1, i_t3_2, i_l3_2, i_t4_0, i_l4_0, i_t4_1, i_l4_1, i_t4_2, i_l4_2, i_t4_3, i_l4_3, i_t5_0, i_l5_0, i_t5_1, i_l5_1, i_t5_2, i_l5_2, i_t5_3, i_l5_3, i_t5_4, i_l5_4, i_t6_0, i_l6_0, i_t6_1, i_l6_1, i_t6_2, i_l6_2, i_t6_3, i_l6_3, i_t6_4, i_l6_4, i_t6_5, i_l6_5, bt_nm, wp_nil, wp_cons, List.replicate, Nat.reduceSub, List.append_nil, Int.reduceLT, Int.reduceLE, Int.reduceBEq, Int.reduceSub, decide_true, decide_false, Bool.not_true, Bool.not_false, Bool.not_not, e_rz, e_rz1, e_ok, e_nx, isc_e, ln0, ln1, ln2, ln3, ln4, lt2, lt4, if_true, if_false, reduceIte, Bool.false_eq_true, bt_nil_t, bt_cons_t, bt_nil_l, bt_cons_l, Option.bind, e_okC, t_asgM, kM1_l, kM2_t, kM1_r, nr_nil, nr_d, nr_u, nr_r, bq_0, bq_0a, bl_1, bl_1z, bl_2, bl_2z, bl_21, bl_c1, bl_c1z, bl_c1y, bl_c1x, bl_c2, bl_c2z, bl_c21, g_1, g_2, g_21, s_1, s_2, s_21, t_apd2, kAp3_u, kAp4_t, kP1_v, kP1_r, kP2_l, kP3_v, kP3_r, e_ok1, e_nx1, e_ok2, e_rz2, e_ok1c, e_ok2c, kC2_u, kC3_t, e_dsel, kD1_v, kD2_v, e_mth, kMt1_v, kMt2_l, kMt3_v, kMt4_s, l_any4, l_all4, ist_s0, ist_i0, tr_bl, is_nn, is_bn, is_in, is_tn, is_ln, is_sn, nb0, nc0, nb1, nc1, nb2, nc2, nb3, nc3, nb4, nc4, nb5, nc5, nb6, nc6, nb7, nc7, nb8, nc8, nb9, nc9, nb10, nc10, nb11, nc11, nb12, nc12, nb13, nc13, nb14, nc14, nb15, nc15, nb16, nc16, nb17, nc17, nb18, nc18, nb19, nc19, nb20, nc20, nb21, nc21, nb22, nc22, nb23, nc23, nb24, nc24, nb25, nc25, nb26, nc26, nb27, nc27, nb28, nc28, nb29, nc29, nb30, nc30, nb31, nc31, nb32, nc32, nb33, nc33, nb34, nc34, nb35, nc35, nb36, nc36, nb37, nc37, nb38, nc38, nb39, nc39, nb40, nc40, r1_0, r1_1, r1_2, r1_3, r1_4, r1_5, r1_6, rgl_1, rgl_2, rgl_3, rgl_4, md_1, md_2, md_3, md_4, qt0, qt1, qt2, qt3, Int.reduceMul, Int.reduceNeg, Int.reduceAdd, Nat.add_zero, Nat.reduceAdd, Bool.true_and, Bool.and_true, Bool.false_and, Bool.and_false, Bool.or_false, Bool.false_or], one _ o2 a3 a4 ?_ fun h => ?_⟩
          · have := sq_le h0' m1
            omega
          · obtain ⟨e, he, hpos, e2⟩ := gin h
            rcases he with rfl | rfl
            · have := P1.mp hpos
              omega
            · exact e2.symm
        · obtain ⟨o1, a1, a2⟩ := fk R hR RL (P1.mpr (by omega))
          simp only [List.map_cons, List.map_nil] at t0
          refine ⟨.lst [(fpl R p q).t], by simp only [q_5, c9, t0, e_var, kV_d, kV_r, kVr_l, kVr_f, e_arg, kA_d, kA_r, e_lit, pk_d, pk_r, kPr_l, kPr_f, outD_s, outB_s, e_bin, kBin1_v, kBin1_r, kBin2_v, kBin2_r, kBin3_s, e_cmp, kCmp1_v, kCmp1_r, kCmp2_v, kCmp2_r, kCmp3_s, e_idx, kIdx1_v, kIdx1_r, kIdx2_v, kIdx2_r, kIdx3_s, e_neg, kNeg1_v, kNeg1_r, e_tru, kTru1_v, kTru1_r, kNeg2_s, kTru2_s, e_isc, kIsc1_v, kIsc1_r, kIsc2_s, e_and, kAnd_t, kAnd_f, kAnd_r, e_or, kOr_t, kOr_f, kOr_r, e_not, kNot_t, kNot_f, kNot_r, e_ifx, kIfx_t, kIfx_f, kIfx_r, e_chn, kCh1_v, kCh1_r, kCh2_v, kCh2_r, kChP_s, kChB_t, kChB_f, kCh3_v, kCh3_r, kCh4_s, e_nil, e_cons, kCs1_v, kCs1_r, kCs2_v, kCs2_r, e_tup, kTu1_v, kTu1_r, kTu2_0, kTu2_1, kTu2_2, kTu2_3, kTu2_4, kTu2_5, kTu2_6, kTu2_7, kTu2_8, e_lst, kLi1_v, kLi1_r, kLi2_0, kLi2_1, kLi2_2, kLi2_3, kLi2_4, kLi2_5, kLi2_6, kLi2_7, kLi2_8, datL, Option.map_some, e_call, kCa1_v, kCa1_r, kCa2_o, kCa2_r, e_blt, kBl1_v, kBl1_r, kBl2_s, pl_nil, pl_cons, kPL_s, e_rng1, kR1_v, e_rng2, kR2_v, kR2_r, kR2b_v, e_comp, kC1_v, kC1_r, cl_nil, cl_cons, kCL_y, kCL_n, s_step, kS1_s, kS2_t, kS2_f, kS3_v, t_seq, kSq_n, kSq_t, kSq_r, kSq_b, t_nop, t_asg, kAs1_v, kAs1_r, kAs2_s, t_par, kPa1_v, kPa2_v, par_d, t_ret, kRt_v, kRt_r, t_exp, kEx_v, kEx_r, t_ite, kIt_t, kIt_f, kIt_r, t_rse, t_brk, t_try, kTr_r, kTr_n, kTr_t, t_for, kF1_v, kF1_r, kF2_s, fl_nil, fl_cons, kFL_n, kFL_t, kFL_r, kFL_b, s_for, kSF_s, List.getElem?_cons_zero, List.getElem?_cons_succ, List.set_cons_zero, List.set_cons_succ, List.length_cons, List.length_nil, List.cons_append, List.nil_append, b_add, b_sub, b_mul, b_fdiv, b_mod, c_lt, c_le, c_gt, c_ge, c_eq, c_ne, c_eqi, c_nei, l_tup, l_list, l_abs, sq_t, sq_l, i_t1_0, i_l1_0, i_t2_0, i_l2_0, i_t2_1, i_l2_1, i_t3_0, i_l3_0, i_t3_1, i_l3_1, i_t3_2, i_l3_2, i_t4_0, i_l4_0, i_t4_1, i_l4_1, i_t4_2, i_l4_2, i_t4_3, i_l4_3, i_t5_0, i_l5_0, i_t5_1, i_l5_1, i_t5_2, i_l5_2, i_t5_3, i_l5_3, i_t5_4, i_l5_4, i_t6_0, i_l6_0, i_t6_1, i_l6_1, i_t6_2, i_l6_2, i_t6_3, i_l6_3, i_t6_4, i_l6_4, i_t6_5, i_l6_5, bt_nm, wp_nil, wp_cons, List.replicate, Nat.reduceSub, List.append_nil, Int.reduceLT, Int.reduceLE, Int.reduceBEq, Int.reduceSub, decide_true, decide_false, Bool.not_true, Bool.not_false, Bool.not_not, e_rz, e_rz1, e_ok, e_nx, isc_e, ln0, ln1, ln2, ln3, ln4, lt2, lt4, if_true, if_false, reduceIte, Bool.false_eq_true, bt_nil_t, bt_cons_t, bt_nil_l, bt_cons_l, Option.bind, e_okC, t_asgM, kM1_l, kM2_t, kM1_r, nr_nil, nr_d, nr_u, nr_r, bq_0, bq_0a, bl_1, bl_1z, bl_2, bl_2z, bl_21, bl_c1, bl_c1z, bl_c1y, bl_c1x, bl_c2, bl_c2z, bl_c21, g_1, g_2, g_21, s_1, s_2, s_21, t_apd2, kAp3_u, kAp4_t, kP1_v, kP1_r, kP2_l, kP3_v, kP3_r, e_ok1, e_nx1, e_ok2, e_rz2, e_ok1c, e_ok2c, kC2_u, kC3_t, e_dsel, kD1_v, kD2_v, e_mth, kMt1_v, kMt2_l, kMt3_v, kMt4_s, l_any4, l_all4, ist_s0, ist_i0, tr_bl, is_nn, is_bn, is_in, is_tn, is_ln, is_sn, nb0, nc0, nb1, nc1, nb2, nc2, nb3, nc3, nb4, nc4, nb5, nc5, nb6, nc6, nb7, nc7, nb8, nc8, nb9, nc9, nb10, nc10, nb11, nc11, nb12, nc12, nb13, nc13, nb14, nc14, nb15, nc15, nb16, nc16, nb17, nc17, nb18, nc18, nb19, nc19, nb20, nc20, nb21, nc21, nb22, nc22, nb23, nc23, nb24, nc24, nb25, nc25, nb26, nc26, nb27, nc27, nb28, nc28, nb29, nc29, nb30, nc30, nb31, nc31, nb32, nc32, nb33, nc33, nb34, nc34, nb35, nc35, nb36, nc36, nb37, nc37, nb38, nc38, nb39, nc39, nb40, nc40, r1_0, r1_1, r1_2, r1_3, r1_4, r1_5, r1_6, rgl_1, rgl_2, rgl_3, rgl_4, md_1, md_2, md_3, md_4, qt0, qt1, qt2, qt3, Int.reduceMul, Int.reduceNeg, Int.reduceAdd, Nat.add_zero, Nat.reduceAdd, Bool.true_and, Bool.and_true, Bool.false_and, Bool.and_false, Bool.or_false, Bool.false_or], one _ o1 a1 a2 ?_ fun h => ?_⟩
          · have := sq_le h0' (show R ≤ 0 - p.pr q by omega)
            have e : (0 - p.pr q) * (0 - p.pr q) = p.pr q * p.pr q := by grind
            omega
          · obtain ⟨e, he, hpos, e2⟩ := gin h
            rcases he with rfl | rfl
            · exact e2.symm
            · have := P2.mp hpos
              omega
  obtain ⟨fd, v5, v6⟩ := s56
  rw [seq_nx v5, seq_nx v6]
  obtain ⟨z, z1, z2, ez⟩ := dr (xs := xs4) (R := []) (ns := ns) 5 (by decide) (by omega)
  have ez := ez 16
  have l5 : (xs4 ++ [D.int 0]).length = xs4.length + 1 := by simp
  generalize xs4 ++ [D.int 0] = xs5 at ez l5
  obtain ⟨M, rfl⟩ : ∃ M : Nat, z = (M : Int) := ⟨z.toNat, by omega⟩
  obtain ⟨gs, xs6, g1, g2, g3, g4⟩ := circs (n := 15) (R := []) (ns := ns) (s2 := .d p.t) (s3 := .d g.t) (s4 := .d q.t) (s5 := .d rd) (s6 := .d fd) (s7 := .un) (s8 := .un) (s9 := .un) M 0 xs5 [] (by omega)
  have mM : mid (M : Int) = true := by
    unfold mid
    rw [decide_eq_true (show -1000000 ≤ (M : Int) by omega), decide_eq_true (show (M : Int) ≤ 1000000 by omega)]
    rfl
  have lM : Nat.ble (List.length (loL 0 M)) 100000 = true := by
    have : ∀ j s, (loL s j).length = j := fun j => by
      induction j with
      | zero => intro s; rfl
      | succ j ih => intro s; show (loL (s + 1) j).length + 1 = _; rw [ih]
    rw [this]
    exact Nat.ble_eq.mpr (by omega)
  rw [List.nil_append] at g4
  have v7 : evT LW c9 0 q_7 [.d (.scr ns), .ref 0, .d p.t, .d g.t, .d q.t, .d rd, .d fd, .un, .un, .un, .un] [.live (.lst xs4)] = some (.nx, [.d (.scr ns), .ref 0, .d p.t, .d g.t, .d q.t, .d rd, .d fd, .d (.lst (gs.map Q.t)), .un, .un, .un], [.live (.lst xs6)]) := by
    simp only [q_7, c9, ez, kR1_v mM, rng_lo, lM, g4, e_var, kV_d, kV_r, kVr_l, kVr_f, e_arg, kA_d, kA_r, e_lit, pk_d, pk_r, kPr_l, kPr_f, outD_s, outB_s, e_bin, kBin1_v, kBin1_r, kBin2_v, kBin2_r, kBin3_s, e_cmp, kCmp1_v, kCmp1_r, kCmp2_v, kCmp2_r, kCmp3_s, e_idx, kIdx1_v, kIdx1_r, kIdx2_v, kIdx2_r, kIdx3_s, e_neg, kNeg1_v, kNeg1_r, e_tru, kTru1_v, kTru1_r, kNeg2_s, kTru2_s, e_isc, kIsc1_v, kIsc1_r, kIsc2_s, e_and, kAnd_t, kAnd_f, kAnd_r, e_or, kOr_t, kOr_f, kOr_r, e_not, kNot_t, kNot_f, kNot_r, e_ifx, kIfx_t, kIfx_f, kIfx_r, e_chn, kCh1_v, kCh1_r, kCh2_v, kCh2_r, kChP_s, kChB_t, kChB_f, kCh3_v, kCh3_r, kCh4_s, e_nil, e_cons, kCs1_v, kCs1_r, kCs2_v, kCs2_r, e_tup, kTu1_v, kTu1_r, kTu2_0, kTu2_1, kTu2_2, kTu2_3, kTu2_4, kTu2_5, kTu2_6, kTu2_7, kTu2_8, e_lst, kLi1_v, kLi1_r, kLi2_0, kLi2_1, kLi2_2, kLi2_3, kLi2_4, kLi2_5, kLi2_6, kLi2_7, kLi2_8, datL, Option.map_some, e_call, kCa1_v, kCa1_r, kCa2_o, kCa2_r, e_blt, kBl1_v, kBl1_r, kBl2_s, pl_nil, pl_cons, kPL_s, e_rng1, kR1_v, e_rng2, kR2_v, kR2_r, kR2b_v, e_comp, kC1_v, kC1_r, cl_nil, cl_cons, kCL_y, kCL_n, s_step, kS1_s, kS2_t, kS2_f, kS3_v, t_seq, kSq_n, kSq_t, kSq_r, kSq_b, t_nop, t_asg, kAs1_v, kAs1_r, kAs2_s, t_par, kPa1_v, kPa2_v, par_d, t_ret, kRt_v, kRt_r, t_exp, kEx_v, kEx_r, t_ite, kIt_t, kIt_f, kIt_r, t_rse, t_brk, t_try, kTr_r, kTr_n, kTr_t, t_for, kF1_v, kF1_r, kF2_s, fl_nil, fl_cons, kFL_n, kFL_t, kFL_r, kFL_b, s_for, kSF_s, List.getElem?_cons_zero, List.getElem?_cons_succ, List.set_cons_zero, List.set_cons_succ, List.length_cons, List.length_nil, List.cons_append, List.nil_append, b_add, b_sub, b_mul, b_fdiv, b_mod, c_lt, c_le, c_gt, c_ge, c_eq, c_ne, c_eqi, c_nei, l_tup, l_list, l_abs, sq_t, sq_l, i_t1_0, i_l1_0, i_t2_0, i_l2_0, i_t2_1, i_l2_1, i_t3_0, i_l3_0, i_t3_1, i_l3_1, i_t3_2, i_l3_2, i_t4_0, i_l4_0, i_t4_1, i_l4_1, i_t4_2, i_l4_2, i_t4_3, i_l4_3, i_t5_0, i_l5_0, i_t5_1, i_l5_1, i_t5_2, i_l5_2, i_t5_3, i_l5_3, i_t5_4, i_l5_4, i_t6_0, i_l6_0, i_t6_1, i_l6_1, i_t6_2, i_l6_2, i_t6_3, i_l6_3, i_t6_4, i_l6_4, i_t6_5, i_l6_5, bt_nm, wp_nil, wp_cons, List.replicate, Nat.reduceSub, List.append_nil, Int.reduceLT, Int.reduceLE, Int.reduceBEq, Int.reduceSub, decide_true, decide_false, Bool.not_true, Bool.not_false, Bool.not_not, e_rz, e_rz1, e_ok, e_nx, isc_e, ln0, ln1, ln2, ln3, ln4, lt2, lt4, if_true, if_false, reduceIte, Bool.false_eq_true, bt_nil_t, bt_cons_t, bt_nil_l, bt_cons_l, Option.bind, e_okC, t_asgM, kM1_l, kM2_t, kM1_r, nr_nil, nr_d, nr_u, nr_r, bq_0, bq_0a, bl_1, bl_1z, bl_2, bl_2z, bl_21, bl_c1, bl_c1z, bl_c1y, bl_c1x, bl_c2, bl_c2z, bl_c21, g_1, g_2, g_21, s_1, s_2, s_21, t_apd2, kAp3_u, kAp4_t, kP1_v, kP1_r, kP2_l, kP3_v, kP3_r, e_ok1, e_nx1, e_ok2, e_rz2, e_ok1c, e_ok2c, kC2_u, kC3_t, e_dsel, kD1_v, kD2_v, e_mth, kMt1_v, kMt2_l, kMt3_v, kMt4_s, l_any4, l_all4, ist_s0, ist_i0, tr_bl, is_nn, is_bn, is_in, is_tn, is_ln, is_sn, nb0, nc0, nb1, nc1, nb2, nc2, nb3, nc3, nb4, nc4, nb5, nc5, nb6, nc6, nb7, nc7, nb8, nc8, nb9, nc9, nb10, nc10, nb11, nc11, nb12, nc12, nb13, nc13, nb14, nc14, nb15, nc15, nb16, nc16, nb17, nc17, nb18, nc18, nb19, nc19, nb20, nc20, nb21, nc21, nb22, nc22, nb23, nc23, nb24, nc24, nb25, nc25, nb26, nc26, nb27, nc27, nb28, nc28, nb29, nc29, nb30, nc30, nb31, nc31, nb32, nc32, nb33, nc33, nb34, nc34, nb35, nc35, nb36, nc36, nb37, nc37, nb38, nc38, nb39, nc39, nb40, nc40, r1_0, r1_1, r1_2, r1_3, r1_4, r1_5, r1_6, rgl_1, rgl_2, rgl_3, rgl_4, md_1, md_2, md_3, md_4, qt0, qt1, qt2, qt3, Int.reduceMul, Int.reduceNeg, Int.reduceAdd, Nat.add_zero, Nat.reduceAdd, Bool.true_and, Bool.and_true, Bool.false_and, Bool.and_false, Bool.or_false, Bool.false_or]
  rw [seq_nx v7]
  have v8 : evT LW c9 0 q_8 [.d (.scr ns), .ref 0, .d p.t, .d g.t, .d q.t, .d rd, .d fd, .d (.lst (gs.map Q.t)), .un, .un, .un] [.live (.lst xs6)] = some (.nx, [.d (.scr ns), .ref 0, .d p.t, .d g.t, .d q.t, .d rd, .d fd, .d (.lst (gs.map Q.t)), .d p.t, .un, .un], [.live (.lst xs6)]) := by
    simp only [q_8, c9, e_var, kV_d, kV_r, kVr_l, kVr_f, e_arg, kA_d, kA_r, e_lit, pk_d, pk_r, kPr_l, kPr_f, outD_s, outB_s, e_bin, kBin1_v, kBin1_r, kBin2_v, kBin2_r, kBin3_s, e_cmp, kCmp1_v, kCmp1_r, kCmp2_v, kCmp2_r, kCmp3_s, e_idx, kIdx1_v, kIdx1_r, kIdx2_v, kIdx2_r, kIdx3_s, e_neg, kNeg1_v, kNeg1_r, e_tru, kTru1_v, kTru1_r, kNeg2_s, kTru2_s, e_isc, kIsc1_v, kIsc1_r, kIsc2_s, e_and, kAnd_t, kAnd_f, kAnd_r, e_or, kOr_t, kOr_f, kOr_r, e_not, kNot_t, kNot_f, kNot_r, e_ifx, kIfx_t, kIfx_f, kIfx_r, e_chn, kCh1_v, kCh1_r, kCh2_v, kCh2_r, kChP_s, kChB_t, kChB_f, kCh3_v, kCh3_r, kCh4_s, e_nil, e_cons, kCs1_v, kCs1_r, kCs2_v, kCs2_r, e_tup, kTu1_v, kTu1_r, kTu2_0, kTu2_1, kTu2_2, kTu2_3, kTu2_4, kTu2_5, kTu2_6, kTu2_7, kTu2_8, e_lst, kLi1_v, kLi1_r, kLi2_0, kLi2_1, kLi2_2, kLi2_3, kLi2_4, kLi2_5, kLi2_6, kLi2_7, kLi2_8, datL, Option.map_some, e_call, kCa1_v, kCa1_r, kCa2_o, kCa2_r, e_blt, kBl1_v, kBl1_r, kBl2_s, pl_nil, pl_cons, kPL_s, e_rng1, kR1_v, e_rng2, kR2_v, kR2_r, kR2b_v, e_comp, kC1_v, kC1_r, cl_nil, cl_cons, kCL_y, kCL_n, s_step, kS1_s, kS2_t, kS2_f, kS3_v, t_seq, kSq_n, kSq_t, kSq_r, kSq_b, t_nop, t_asg, kAs1_v, kAs1_r, kAs2_s, t_par, kPa1_v, kPa2_v, par_d, t_ret, kRt_v, kRt_r, t_exp, kEx_v, kEx_r, t_ite, kIt_t, kIt_f, kIt_r, t_rse, t_brk, t_try, kTr_r, kTr_n, kTr_t, t_for, kF1_v, kF1_r, kF2_s, fl_nil, fl_cons, kFL_n, kFL_t, kFL_r, kFL_b, s_for, kSF_s, List.getElem?_cons_zero, List.getElem?_cons_succ, List.set_cons_zero, List.set_cons_succ, List.length_cons, List.length_nil, List.cons_append, List.nil_append, b_add, b_sub, b_mul, b_fdiv, b_mod, c_lt, c_le, c_gt, c_ge, c_eq, c_ne, c_eqi, c_nei, l_tup, l_list, l_abs, sq_t, sq_l, i_t1_0, i_l1_0, i_t2_0, i_l2_0, i_t2_1, i_l2_1, i_t3_0, i_l3_0, i_t3_1, i_l3_1, i_t3_2, i_l3_2, i_t4_0, i_l4_0, i_t4_1, i_l4_1, i_t4_2, i_l4_2, i_t4_3, i_l4_3, i_t5_0, i_l5_0, i_t5_1, i_l5_1, i_t5_2, i_l5_2, i_t5_3, i_l5_3, i_t5_4, i_l5_4, i_t6_0, i_l6_0, i_t6_1, i_l6_1, i_t6_2, i_l6_2, i_t6_3, i_l6_3, i_t6_4, i_l6_4, i_t6_5, i_l6_5, bt_nm, wp_nil, wp_cons, List.replicate, Nat.reduceSub, List.append_nil, Int.reduceLT, Int.reduceLE, Int.reduceBEq, Int.reduceSub, decide_true, decide_false, Bool.not_true, Bool.not_false, Bool.not_not, e_rz, e_rz1, e_ok, e_nx, isc_e, ln0, ln1, ln2, ln3, ln4, lt2, lt4, if_true, if_false, reduceIte, Bool.false_eq_true, bt_nil_t, bt_cons_t, bt_nil_l, bt_cons_l, Option.bind, e_okC, t_asgM, kM1_l, kM2_t, kM1_r, nr_nil, nr_d, nr_u, nr_r, bq_0, bq_0a, bl_1, bl_1z, bl_2, bl_2z, bl_21, bl_c1, bl_c1z, bl_c1y, bl_c1x, bl_c2, bl_c2z, bl_c21, g_1, g_2, g_21, s_1, s_2, s_21, t_apd2, kAp3_u, kAp4_t, kP1_v, kP1_r, kP2_l, kP3_v, kP3_r, e_ok1, e_nx1, e_ok2, e_rz2, e_ok1c, e_ok2c, kC2_u, kC3_t, e_dsel, kD1_v, kD2_v, e_mth, kMt1_v, kMt2_l, kMt3_v, kMt4_s, l_any4, l_all4, ist_s0, ist_i0, tr_bl, is_nn, is_bn, is_in, is_tn, is_ln, is_sn, nb0, nc0, nb1, nc1, nb2, nc2, nb3, nc3, nb4, nc4, nb5, nc5, nb6, nc6, nb7, nc7, nb8, nc8, nb9, nc9, nb10, nc10, nb11, nc11, nb12, nc12, nb13, nc13, nb14, nc14, nb15, nc15, nb16, nc16, nb17, nc17, nb18, nc18, nb19, nc19, nb20, nc20, nb21, nc21, nb22, nc22, nb23, nc23, nb24, nc24, nb25, nc25, nb26, nc26, nb27, nc27, nb28, nc28, nb29, nc29, nb30, nc30, nb31, nc31, nb32, nc32, nb33, nc33, nb34, nc34, nb35, nc35, nb36, nc36, nb37, nc37, nb38, nc38, nb39, nc39, nb40, nc40, r1_0, r1_1, r1_2, r1_3, r1_4, r1_5, r1_6, rgl_1, rgl_2, rgl_3, rgl_4, md_1, md_2, md_3, md_4, qt0, qt1, qt2, qt3, Int.reduceMul, Int.reduceNeg, Int.reduceAdd, Nat.add_zero, Nat.reduceAdd, Bool.true_and, Bool.and_true, Bool.false_and, Bool.and_false, Bool.or_false, Bool.false_or]
  rw [seq_nx v8]
  obtain ⟨t9, hl⟩ := lh_loop (n := 16) (w := 0) (S := [.live (.lst xs6)]) (s0 := .d (.scr ns)) (s1 := .ref 0) (s2 := .d p.t) (s3 := .d g.t) (s4 := .d q.t) (s5 := .d rd) (s6 := .d fd) (s7 := .d (.lst (gs.map Q.t))) (s10 := .un) gs 7 p .un hp (Nat.lt_of_le_of_lt (Nat.mul_le_mul_left _ (Nat.pow_le_pow_right (by decide) (show gs.length ≤ 10 by omega))) (by decide +kernel)) g2
  have tu := to_ok1 (n := 17) (v_turned (n := 14) (S := [.live (.lst xs6)]) hp (show gs.length ≤ 10 by omega) g2)
  generalize gs.map Q.t = ys at *
  have v9 : evT LW c9 0 q_9 [.d (.scr ns), .ref 0, .d p.t, .d g.t, .d q.t, .d rd, .d fd, .d (.lst ys), .d p.t, .un, .un] [.live (.lst xs6)] = some (.nx, [.d (.scr ns), .ref 0, .d p.t, .d g.t, .d q.t, .d rd, .d fd, .d (.lst ys), .d (gs.foldl tm p).t, t9, .un], [.live (.lst xs6)]) := by
    unfold c9
    simp only [q_9, hl, e_var, kV_d, kV_r, kVr_l, kVr_f, e_arg, kA_d, kA_r, e_lit, pk_d, pk_r, kPr_l, kPr_f, outD_s, outB_s, e_bin, kBin1_v, kBin1_r, kBin2_v, kBin2_r, kBin3_s, e_cmp, kCmp1_v, kCmp1_r, kCmp2_v, kCmp2_r, kCmp3_s, e_idx, kIdx1_v, kIdx1_r, kIdx2_v, kIdx2_r, kIdx3_s, e_neg, kNeg1_v, kNeg1_r, e_tru, kTru1_v, kTru1_r, kNeg2_s, kTru2_s, e_isc, kIsc1_v, kIsc1_r, kIsc2_s, e_and, kAnd_t, kAnd_f, kAnd_r, e_or, kOr_t, kOr_f, kOr_r, e_not, kNot_t, kNot_f, kNot_r, e_ifx, kIfx_t, kIfx_f, kIfx_r, e_chn, kCh1_v, kCh1_r, kCh2_v, kCh2_r, kChP_s, kChB_t, kChB_f, kCh3_v, kCh3_r, kCh4_s, e_nil, e_cons, kCs1_v, kCs1_r, kCs2_v, kCs2_r, e_tup, kTu1_v, kTu1_r, kTu2_0, kTu2_1, kTu2_2, kTu2_3, kTu2_4, kTu2_5, kTu2_6, kTu2_7, kTu2_8, e_lst, kLi1_v, kLi1_r, kLi2_0, kLi2_1, kLi2_2, kLi2_3, kLi2_4, kLi2_5, kLi2_6, kLi2_7, kLi2_8, datL, Option.map_some, e_call, kCa1_v, kCa1_r, kCa2_o, kCa2_r, e_blt, kBl1_v, kBl1_r, kBl2_s, pl_nil, pl_cons, kPL_s, e_rng1, kR1_v, e_rng2, kR2_v, kR2_r, kR2b_v, e_comp, kC1_v, kC1_r, cl_nil, cl_cons, kCL_y, kCL_n, s_step, kS1_s, kS2_t, kS2_f, kS3_v, t_seq, kSq_n, kSq_t, kSq_r, kSq_b, t_nop, t_asg, kAs1_v, kAs1_r, kAs2_s, t_par, kPa1_v, kPa2_v, par_d, t_ret, kRt_v, kRt_r, t_exp, kEx_v, kEx_r, t_ite, kIt_t, kIt_f, kIt_r, t_rse, t_brk, t_try, kTr_r, kTr_n, kTr_t, t_for, kF1_v, kF1_r, kF2_s, fl_nil, fl_cons, kFL_n, kFL_t, kFL_r, kFL_b, s_for, kSF_s, List.getElem?_cons_zero, List.getElem?_cons_succ, List.set_cons_zero, List.set_cons_succ, List.length_cons, List.length_nil, List.cons_append, List.nil_append, b_add, b_sub, b_mul, b_fdiv, b_mod, c_lt, c_le, c_gt, c_ge, c_eq, c_ne, c_eqi, c_nei, l_tup, l_list, l_abs, sq_t, sq_l, i_t1_0, i_l1_0, i_t2_0, i_l2_0, i_t2_1, i_l2_1, i_t3_0, i_l3_0, i_t3_1, i_l3_1, i_t3_2, i_l3_2, i_t4_0, i_l4_0, i_t4_1, i_l4_1, i_t4_2, i_l4_2, i_t4_3, i_l4_3, i_t5_0, i_l5_0, i_t5_1, i_l5_1, i_t5_2, i_l5_2, i_t5_3, i_l5_3, i_t5_4, i_l5_4, i_t6_0, i_l6_0, i_t6_1, i_l6_1, i_t6_2, i_l6_2, i_t6_3, i_l6_3, i_t6_4, i_l6_4, i_t6_5, i_l6_5, bt_nm, wp_nil, wp_cons, List.replicate, Nat.reduceSub, List.append_nil, Int.reduceLT, Int.reduceLE, Int.reduceBEq, Int.reduceSub, decide_true, decide_false, Bool.not_true, Bool.not_false, Bool.not_not, e_rz, e_rz1, e_ok, e_nx, isc_e, ln0, ln1, ln2, ln3, ln4, lt2, lt4, if_true, if_false, reduceIte, Bool.false_eq_true, bt_nil_t, bt_cons_t, bt_nil_l, bt_cons_l, Option.bind, e_okC, t_asgM, kM1_l, kM2_t, kM1_r, nr_nil, nr_d, nr_u, nr_r, bq_0, bq_0a, bl_1, bl_1z, bl_2, bl_2z, bl_21, bl_c1, bl_c1z, bl_c1y, bl_c1x, bl_c2, bl_c2z, bl_c21, g_1, g_2, g_21, s_1, s_2, s_21, t_apd2, kAp3_u, kAp4_t, kP1_v, kP1_r, kP2_l, kP3_v, kP3_r, e_ok1, e_nx1, e_ok2, e_rz2, e_ok1c, e_ok2c, kC2_u, kC3_t, e_dsel, kD1_v, kD2_v, e_mth, kMt1_v, kMt2_l, kMt3_v, kMt4_s, l_any4, l_all4, ist_s0, ist_i0, tr_bl, is_nn, is_bn, is_in, is_tn, is_ln, is_sn, nb0, nc0, nb1, nc1, nb2, nc2, nb3, nc3, nb4, nc4, nb5, nc5, nb6, nc6, nb7, nc7, nb8, nc8, nb9, nc9, nb10, nc10, nb11, nc11, nb12, nc12, nb13, nc13, nb14, nc14, nb15, nc15, nb16, nc16, nb17, nc17, nb18, nc18, nb19, nc19, nb20, nc20, nb21, nc21, nb22, nc22, nb23, nc23, nb24, nc24, nb25, nc25, nb26, nc26, nb27, nc27, nb28, nc28, nb29, nc29, nb30, nc30, nb31, nc31, nb32, nc32, nb33, nc33, nb34, nc34, nb35, nc35, nb36, nc36, nb37, nc37, nb38, nc38, nb39, nc39, nb40, nc40, r1_0, r1_1, r1_2, r1_3, r1_4, r1_5, r1_6, rgl_1, rgl_2, rgl_3, rgl_4, md_1, md_2, md_3, md_4, qt0, qt1, qt2, qt3, Int.reduceMul, Int.reduceNeg, Int.reduceAdd, Nat.add_zero, Nat.reduceAdd, Bool.true_and, Bool.and_true, Bool.false_and, Bool.and_false, Bool.or_false, Bool.false_or]
  rw [seq_nx v9]
  have v10 : evT LW c9 0 q_10 [.d (.scr ns), .ref 0, .d p.t, .d g.t, .d q.t, .d rd, .d fd, .d (.lst ys), .d (gs.foldl tm p).t, t9, .un] [.live (.lst xs6)] = some (.nx, [.d (.scr ns), .ref 0, .d p.t, .d g.t, .d q.t, .d rd, .d fd, .d (.lst ys), .d (gs.foldl tm p).t, t9, .un], [.live (.lst xs6)]) := by
    simp only [q_10, c9, tu, nq, e_var, kV_d, kV_r, kVr_l, kVr_f, e_arg, kA_d, kA_r, e_lit, pk_d, pk_r, kPr_l, kPr_f, outD_s, outB_s, e_bin, kBin1_v, kBin1_r, kBin2_v, kBin2_r, kBin3_s, e_cmp, kCmp1_v, kCmp1_r, kCmp2_v, kCmp2_r, kCmp3_s, e_idx, kIdx1_v, kIdx1_r, kIdx2_v, kIdx2_r, kIdx3_s, e_neg, kNeg1_v, kNeg1_r, e_tru, kTru1_v, kTru1_r, kNeg2_s, kTru2_s, e_isc, kIsc1_v, kIsc1_r, kIsc2_s, e_and, kAnd_t, kAnd_f, kAnd_r, e_or, kOr_t, kOr_f, kOr_r, e_not, kNot_t, kNot_f, kNot_r, e_ifx, kIfx_t, kIfx_f, kIfx_r, e_chn, kCh1_v, kCh1_r, kCh2_v, kCh2_r, kChP_s, kChB_t, kChB_f, kCh3_v, kCh3_r, kCh4_s, e_nil, e_cons, kCs1_v, kCs1_r, kCs2_v, kCs2_r, e_tup, kTu1_v, kTu1_r, kTu2_0, kTu2_1, kTu2_2, kTu2_3, kTu2_4, kTu2_5, kTu2_6, kTu2_7, kTu2_8, e_lst, kLi1_v, kLi1_r, kLi2_0, kLi2_1, kLi2_2, kLi2_3, kLi2_4, kLi2_5, kLi2_6, kLi2_7, kLi2_8, datL, Option.map_some, e_call, kCa1_v, kCa1_r, kCa2_o, kCa2_r, e_blt, kBl1_v, kBl1_r, kBl2_s, pl_nil, pl_cons, kPL_s, e_rng1, kR1_v, e_rng2, kR2_v, kR2_r, kR2b_v, e_comp, kC1_v, kC1_r, cl_nil, cl_cons, kCL_y, kCL_n, s_step, kS1_s, kS2_t, kS2_f, kS3_v, t_seq, kSq_n, kSq_t, kSq_r, kSq_b, t_nop, t_asg, kAs1_v, kAs1_r, kAs2_s, t_par, kPa1_v, kPa2_v, par_d, t_ret, kRt_v, kRt_r, t_exp, kEx_v, kEx_r, t_ite, kIt_t, kIt_f, kIt_r, t_rse, t_brk, t_try, kTr_r, kTr_n, kTr_t, t_for, kF1_v, kF1_r, kF2_s, fl_nil, fl_cons, kFL_n, kFL_t, kFL_r, kFL_b, s_for, kSF_s, List.getElem?_cons_zero, List.getElem?_cons_succ, List.set_cons_zero, List.set_cons_succ, List.length_cons, List.length_nil, List.cons_append, List.nil_append, b_add, b_sub, b_mul, b_fdiv, b_mod, c_lt, c_le, c_gt, c_ge, c_eq, c_ne, c_eqi, c_nei, l_tup, l_list, l_abs, sq_t, sq_l, i_t1_0, i_l1_0, i_t2_0, i_l2_0, i_t2_1, i_l2_1, i_t3_0, i_l3_0, i_t3_1, i_l3_1, i_t3_2, i_l3_2, i_t4_0, i_l4_0, i_t4_1, i_l4_1, i_t4_2, i_l4_2, i_t4_3, i_l4_3, i_t5_0, i_l5_0, i_t5_1, i_l5_1, i_t5_2, i_l5_2, i_t5_3, i_l5_3, i_t5_4, i_l5_4, i_t6_0, i_l6_0, i_t6_1, i_l6_1, i_t6_2, i_l6_2, i_t6_3, i_l6_3, i_t6_4, i_l6_4, i_t6_5, i_l6_5, bt_nm, wp_nil, wp_cons, List.replicate, Nat.reduceSub, List.append_nil, Int.reduceLT, Int.reduceLE, Int.reduceBEq, Int.reduceSub, decide_true, decide_false, Bool.not_true, Bool.not_false, Bool.not_not, e_rz, e_rz1, e_ok, e_nx, isc_e, ln0, ln1, ln2, ln3, ln4, lt2, lt4, if_true, if_false, reduceIte, Bool.false_eq_true, bt_nil_t, bt_cons_t, bt_nil_l, bt_cons_l, Option.bind, e_okC, t_asgM, kM1_l, kM2_t, kM1_r, nr_nil, nr_d, nr_u, nr_r, bq_0, bq_0a, bl_1, bl_1z, bl_2, bl_2z, bl_21, bl_c1, bl_c1z, bl_c1y, bl_c1x, bl_c2, bl_c2z, bl_c21, g_1, g_2, g_21, s_1, s_2, s_21, t_apd2, kAp3_u, kAp4_t, kP1_v, kP1_r, kP2_l, kP3_v, kP3_r, e_ok1, e_nx1, e_ok2, e_rz2, e_ok1c, e_ok2c, kC2_u, kC3_t, e_dsel, kD1_v, kD2_v, e_mth, kMt1_v, kMt2_l, kMt3_v, kMt4_s, l_any4, l_all4, ist_s0, ist_i0, tr_bl, is_nn, is_bn, is_in, is_tn, is_ln, is_sn, nb0, nc0, nb1, nc1, nb2, nc2, nb3, nc3, nb4, nc4, nb5, nc5, nb6, nc6, nb7, nc7, nb8, nc8, nb9, nc9, nb10, nc10, nb11, nc11, nb12, nc12, nb13, nc13, nb14, nc14, nb15, nc15, nb16, nc16, nb17, nc17, nb18, nc18, nb19, nc19, nb20, nc20, nb21, nc21, nb22, nc22, nb23, nc23, nb24, nc24, nb25, nc25, nb26, nc26, nb27, nc27, nb28, nc28, nb29, nc29, nb30, nc30, nb31, nc31, nb32, nc32, nb33, nc33, nb34, nc34, nb35, nc35, nb36, nc36, nb37, nc37, nb38, nc38, nb39, nc39, nb40, nc40, r1_0, r1_1, r1_2, r1_3, r1_4, r1_5, r1_6, rgl_1, rgl_2, rgl_3, rgl_4, md_1, md_2, md_3, md_4, qt0, qt1, qt2, qt3, Int.reduceMul, Int.reduceNeg, Int.reduceAdd, Nat.add_zero, Nat.reduceAdd, Bool.true_and, Bool.and_true, Bool.false_and, Bool.and_false, Bool.or_false, Bool.false_or]
  rw [seq_nx v10]
  obtain ⟨xs7, er⟩ := v_comes (ns := ns) (xs0 := xs6) (by omega) hp hg
  simp only [q_11, c9, er, e_var, kV_d, kV_r, kVr_l, kVr_f, e_arg, kA_d, kA_r, e_lit, pk_d, pk_r, kPr_l, kPr_f, outD_s, outB_s, e_bin, kBin1_v, kBin1_r, kBin2_v, kBin2_r, kBin3_s, e_cmp, kCmp1_v, kCmp1_r, kCmp2_v, kCmp2_r, kCmp3_s, e_idx, kIdx1_v, kIdx1_r, kIdx2_v, kIdx2_r, kIdx3_s, e_neg, kNeg1_v, kNeg1_r, e_tru, kTru1_v, kTru1_r, kNeg2_s, kTru2_s, e_isc, kIsc1_v, kIsc1_r, kIsc2_s, e_and, kAnd_t, kAnd_f, kAnd_r, e_or, kOr_t, kOr_f, kOr_r, e_not, kNot_t, kNot_f, kNot_r, e_ifx, kIfx_t, kIfx_f, kIfx_r, e_chn, kCh1_v, kCh1_r, kCh2_v, kCh2_r, kChP_s, kChB_t, kChB_f, kCh3_v, kCh3_r, kCh4_s, e_nil, e_cons, kCs1_v, kCs1_r, kCs2_v, kCs2_r, e_tup, kTu1_v, kTu1_r, kTu2_0, kTu2_1, kTu2_2, kTu2_3, kTu2_4, kTu2_5, kTu2_6, kTu2_7, kTu2_8, e_lst, kLi1_v, kLi1_r, kLi2_0, kLi2_1, kLi2_2, kLi2_3, kLi2_4, kLi2_5, kLi2_6, kLi2_7, kLi2_8, datL, Option.map_some, e_call, kCa1_v, kCa1_r, kCa2_o, kCa2_r, e_blt, kBl1_v, kBl1_r, kBl2_s, pl_nil, pl_cons, kPL_s, e_rng1, kR1_v, e_rng2, kR2_v, kR2_r, kR2b_v, e_comp, kC1_v, kC1_r, cl_nil, cl_cons, kCL_y, kCL_n, s_step, kS1_s, kS2_t, kS2_f, kS3_v, t_seq, kSq_n, kSq_t, kSq_r, kSq_b, t_nop, t_asg, kAs1_v, kAs1_r, kAs2_s, t_par, kPa1_v, kPa2_v, par_d, t_ret, kRt_v, kRt_r, t_exp, kEx_v, kEx_r, t_ite, kIt_t, kIt_f, kIt_r, t_rse, t_brk, t_try, kTr_r, kTr_n, kTr_t, t_for, kF1_v, kF1_r, kF2_s, fl_nil, fl_cons, kFL_n, kFL_t, kFL_r, kFL_b, s_for, kSF_s, List.getElem?_cons_zero, List.getElem?_cons_succ, List.set_cons_zero, List.set_cons_succ, List.length_cons, List.length_nil, List.cons_append, List.nil_append, b_add, b_sub, b_mul, b_fdiv, b_mod, c_lt, c_le, c_gt, c_ge, c_eq, c_ne, c_eqi, c_nei, l_tup, l_list, l_abs, sq_t, sq_l, i_t1_0, i_l1_0, i_t2_0, i_l2_0, i_t2_1, i_l2_1, i_t3_0, i_l3_0, i_t3_1, i_l3_1, i_t3_2, i_l3_2, i_t4_0, i_l4_0, i_t4_1, i_l4_1, i_t4_2, i_l4_2, i_t4_3, i_l4_3, i_t5_0, i_l5_0, i_t5_1, i_l5_1, i_t5_2, i_l5_2, i_t5_3, i_l5_3, i_t5_4, i_l5_4, i_t6_0, i_l6_0, i_t6_1, i_l6_1, i_t6_2, i_l6_2, i_t6_3, i_l6_3, i_t6_4, i_l6_4, i_t6_5, i_l6_5, bt_nm, wp_nil, wp_cons, List.replicate, Nat.reduceSub, List.append_nil, Int.reduceLT, Int.reduceLE, Int.reduceBEq, Int.reduceSub, decide_true, decide_false, Bool.not_true, Bool.not_false, Bool.not_not, e_rz, e_rz1, e_ok, e_nx, isc_e, ln0, ln1, ln2, ln3, ln4, lt2, lt4, if_true, if_false, reduceIte, Bool.false_eq_true, bt_nil_t, bt_cons_t, bt_nil_l, bt_cons_l, Option.bind, e_okC, t_asgM, kM1_l, kM2_t, kM1_r, nr_nil, nr_d, nr_u, nr_r, bq_0, bq_0a, bl_1, bl_1z, bl_2, bl_2z, bl_21, bl_c1, bl_c1z, bl_c1y, bl_c1x, bl_c2, bl_c2z, bl_c21, g_1, g_2, g_21, s_1, s_2, s_21, t_apd2, kAp3_u, kAp4_t, kP1_v, kP1_r, kP2_l, kP3_v, kP3_r, e_ok1, e_nx1, e_ok2, e_rz2, e_ok1c, e_ok2c, kC2_u, kC3_t, e_dsel, kD1_v, kD2_v, e_mth, kMt1_v, kMt2_l, kMt3_v, kMt4_s, l_any4, l_all4, ist_s0, ist_i0, tr_bl, is_nn, is_bn, is_in, is_tn, is_ln, is_sn, nb0, nc0, nb1, nc1, nb2, nc2, nb3, nc3, nb4, nc4, nb5, nc5, nb6, nc6, nb7, nc7, nb8, nc8, nb9, nc9, nb10, nc10, nb11, nc11, nb12, nc12, nb13, nc13, nb14, nc14, nb15, nc15, nb16, nc16, nb17, nc17, nb18, nc18, nb19, nc19, nb20, nc20, nb21, nc21, nb22, nc22, nb23, nc23, nb24, nc24, nb25, nc25, nb26, nc26, nb27, nc27, nb28, nc28, nb29, nc29, nb30, nc30, nb31, nc31, nb32, nc32, nb33, nc33, nb34, nc34, nb35, nc35, nb36, nc36, nb37, nc37, nb38, nc38, nb39, nc39, nb40, nc40, r1_0, r1_1, r1_2, r1_3, r1_4, r1_5, r1_6, rgl_1, rgl_2, rgl_3, rgl_4, md_1, md_2, md_3, md_4, qt0, qt1, qt2, qt3, Int.reduceMul, Int.reduceNeg, Int.reduceAdd, Nat.add_zero, Nat.reduceAdd, Bool.true_and, Bool.and_true, Bool.false_and, Bool.and_false, Bool.or_false, Bool.false_or]
  rfl
end Lq

theorem PySem.Challenge.cw_circlemirrors_k11_whole_exchanging_holds : PySem.Challenge.rw_circlemirrors_k11_whole_exchanging.Holds := by
  exact Lq.done fun ns _ => Lq.ev ns

