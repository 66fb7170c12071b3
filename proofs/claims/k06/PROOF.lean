import PyProof.Rows.All
import Wide.All
import OpenK.AllK
import Wide.FinOn
import HandS.ForMost
import HandS.ForExc
import HandS.CallSlots
import HandS.TryMany
import HandS.ExcIs
import HandS.ExcField
import HandS.Defaults
import HandS.IsInst
import HandS.Star
import HandS.Zip
import HandS.Rev
import HandS.Conv
import HandS.TupAny
import HandS.TupMul
import HandS.Wide
import HandS.SetKeys
import HandS.Style
import HandS.Small
import HandS.SortOrd
import HandS.StrMore
import HandS.More
import HandS.Deep
import PyProof.Rows.SortShellAny
import HandS.SetFor
import HandS.SetTxt0
import HandS.Lambda
import KE.KDictPairs
import KE.KDictZip
import PyProof.ZipIter
import HandS.SortRule
import HandS.Walk
import HandS.ExcInit
import HandS.ExcSuper
import HandS.HeadWalk
import KE.KExcSuper
import KE.KSuper
import HandS.HeadEnd
import HandS.HeadHook1
import HandS.HeadHook2
import KE.KStateDown
import HandS.WordsExc
import HandS.Head0
import HandS.Head1
import HandS.Head2
import PySem.Challenge.RW_boundbyproof_k06_whole_rows_of_formulas
set_option Elab.async false
set_option linter.all false
set_option maxRecDepth 100000
set_option maxHeartbeats 0
set_option autoImplicit false
/-! Z1: values, the small language (IR), its functional meaning. -/
namespace Z
open PySem L2

/-- values: tuples (pr: what a walk yields in pairs) and value lists as they are; scr: a list that is read alone (the script); loc: a changing object of the store -/
inductive D where
  | non | bl (b : Bool) | int (i : Int) | str (s : Str)
  | tup (xs : List D) | lst (xs : List D)
  | scr (xs : List D)
  | loc (n : Nat)
  | pr (xs : List D)
inductive MO where
  | dead
  | lst (xs : List D)
  | dct (kvs : List (Key × D))
  | ins (c : String) (fs : List (String × D))
abbrev Sto := List MO
abbrev En := List (Option D)

inductive Res (α : Type) where
  | ok (a : α) (M : Sto)
  | exc (c : String) (p : Option D) (M : Sto)
  | fail
def Res.bind {α β : Type} (r : Res α) (f : α → Sto → Res β) : Res β := match r with
  | .ok a M => f a M
  | .exc c p M => .exc c p M
  | .fail => .fail
@[simp] theorem bind_ok {α β : Type} (a : α) (M : Sto) (f : α → Sto → Res β) : (Res.ok a M).bind f = f a M := rfl
@[simp] theorem bind_exc {α β : Type} (c : String) (p : Option D) (M : Sto) (f : α → Sto → Res β) : (Res.exc c p M : Res α).bind f = .exc c p M := rfl
@[simp] theorem bind_fail {α β : Type} (f : α → Sto → Res β) : (Res.fail : Res α).bind f = .fail := rfl
/-- an exception is a fault here -/
def Res.calm {α : Type} (r : Res α) : Res α := match r with
  | .ok a M => .ok a M
  | _ => .fail
@[simp] theorem calm_ok {α : Type} (a : α) (M : Sto) : (Res.ok a M).calm = .ok a M := rfl
def ofO {α : Type} (o : Option α) (M : Sto) : Res α := match o with
  | some a => .ok a M
  | none => .fail
@[simp] theorem ofO_some {α : Type} (a : α) (M : Sto) : ofO (some a) M = .ok a M := rfl
@[simp] theorem ofO_none {α : Type} (M : Sto) : (ofO none M : Res α) = .fail := rfl

/-! ### equality -/
mutual
def D.eqv : D → D → Bool
  | .non, .non => true
  | .bl a, .bl b => a == b
  | .bl a, .int j => (if a then 1 else 0) == j
  | .int i, .bl b => i == (if b then 1 else 0)
  | .int i, .int j => i == j
  | .str x, .str y => x == y
  | .lst xs, .lst ys => D.eqvs xs ys
  | .tup xs, .tup ys => D.eqvs xs ys
  | _, _ => false
def D.eqvs : List D → List D → Bool
  | [], [] => true
  | x :: xs, y :: ys => D.eqv x y && D.eqvs xs ys
  | _, _ => false
end
mutual
/-- data of few levels, its texts of signs that there are -/
def D.fit : Nat → D → Bool
  | _, .non => true
  | _, .bl _ => true
  | _, .int _ => true
  | _, .str x => x.cps.all (· < 0x110000)
  | 0, _ => false
  | n + 1, .tup xs => D.fits n xs
  | n + 1, .lst xs => D.fits n xs
  | _, .scr _ => false
  | _, .loc _ => false
  | _, .pr _ => false
def D.fits : Nat → List D → Bool
  | _, [] => true
  | n, x :: xs => D.fit n x && D.fits n xs
end
/-- a list that changes is compared by what it holds -/
def D.seen (M : Sto) : D → D
  | .loc n => (match M[n]? with
    | some (.lst xs) => .lst xs
    | _ => .loc n)
  | d => d
def D.flat : D → Bool
  | .non | .bl _ | .int _ | .str _ => true
  | _ => false
def D.scal : D → D → Bool
  | .bl _, .int _ | .int _, .bl _ => false
  | a, b => a.flat && b.flat
def eqD (M : Sto) (a b : D) : Option Bool :=
  if D.scal a b then some (D.eqv a b) else
  let x := a.seen M
  let y := b.seen M
  if D.fit 64 x && D.fit 64 y then some (D.eqv x y) else none

/-! ### sequences, places -/
def asSeq (M : Sto) : D → Option (List D)
  | .tup xs => some xs
  | .lst xs => some xs
  | .loc n => (match M[n]? with
    | some (.lst xs) => some xs
    | _ => none)
  | _ => none
/-- the i-th item, counted from either end -/
abbrev itemAt {α : Type} (xs : List α) (i : Int) : Option α := atI xs i
def cut {α : Type} (xs : List α) (lo hi : Option Int) : List α :=
  (xs.drop (HT.sIx xs.length 0 lo)).take (HT.sIx xs.length xs.length hi - HT.sIx xs.length 0 lo)
def newList (m : Bool) (xs : List D) (M : Sto) : Res D := if m then .ok (.loc M.length) (M ++ [.lst xs]) else .ok (.lst xs) M

/-! ### the small language -/
inductive Bop where
  | add | sub | mul | fdiv | mod | pow
  deriving DecidableEq
inductive Cop where
  | eq | ne | lt | le | gt | ge | inn | nin
  deriving DecidableEq
inductive Ty where
  | int | bool | str | tup | lst | non | dct
  deriving DecidableEq
inductive Bi where
  | len | abs | int | all | any | sum | max | min | tuple | list | sorted | dict | str | sset | sortp | dzip
  deriving DecidableEq
/-- told by two names, one within the other -/
def Bi.two : Bi → Bool
  | .sset => true
  | .dzip => true
  | _ => false
inductive Mt where
  | append | pop | popAt | extend | get | join | upper | split | startswith | replace | index
  deriving DecidableEq
inductive Tg where
  | n (i : Nat)
  | t (is : List Nat)
  deriving DecidableEq
/-- how a def that is handed a lambda tells what it does: the form of its answer; the errors that it hears of, each with its word -/
inductive HK where
  | ret | var | zero
  deriving DecidableEq
structure HF where
  k : HK
  hs : List (String × Str)
  deriving DecidableEq
mutual
inductive E where
  | var (i : Nat)
  | cst (d : D)
  | gl (x : String) (d : D)
  | bin (op : Bop) (a b : E)
  | neg (a : E)
  | cmp (op : Cop) (a b : E)
  | chain (o1 o2 : Cop) (a b c : E)
  | isN (neg : Bool) (a : E)
  | isB (neg b : Bool) (a : E)
  | boo (k : Bool) (es : Es)
  | not (a : E)
  | ite (c a b : E)
  | tup (es : Es)
  | tstar (a b : E)
  | lst (m : Bool) (es : Es)
  | dic0
  | idx (a i : E)
  | slc (m : Bool) (a : E) (lo hi : Oe)
  | rev (m : Bool) (a : E)
  | call (f : String) (es : Es)
  | callk (f : String) (es : Es) (ks : List String) (kes : Es)
  | bi (b : Bi) (m : Bool) (es : Es)
  | isi (a : E) (one : Bool) (ts : List Ty)
  | mth (f : Mt) (a : E) (es : Es)
  | comp (m : Bool) (el : E) (t : Tg) (it : It) (c : Oe) (own : List Nat)
  | comp2 (m : Bool) (el : E) (t : Tg) (it : It) (c : Oe) (t1 : Tg) (it1 : It) (c1 : Oe) (own own1 : List Nat)
  | heard (g : String) (h : HF) (body : E)
  | frz (a : E)
  | nvr
inductive Es where
  | nil
  | cons (e : E) (es : Es)
inductive Oe where
  | non
  | som (e : E)
inductive It where
  | sq (e : E)
  | rng (es : Es)
  | enm (e : E)
  | zip (a b : E)
end
mutual
inductive S where
  | ex (e : E)
  | asg (t : Tg) (e : E)
  | asgIx (a i e : E)
  | aug (i : Nat) (op : Bop) (e : E)
  | ret (e : Oe)
  | iff (c : E) (a b : Ss)
  | whl (c : E) (b : Ss)
  | for_ (t : Tg) (it : It) (b : Ss)
  | rais (c : String) (es : Es)
  | tr (b : Ss) (i : Nat) (hs : List (String × Str))
  | pas
  | brk
  | cnt
  | nvr
inductive Ss where
  | nil
  | cons (s : S) (r : Ss)
end
/-- a def: how many parameters, how many names, its body; own: nothing new is left behind it but its answer; low: what it calls is so much less deep -/
structure Fn where
  np : Nat
  ns : Nat
  body : Ss
  own : Bool
  low : Nat

/-! ### operations -/
def mulOk (i j : Int) : Bool := decide (i.natAbs.log2 + j.natAbs.log2 < 1000000)
def divOk (j : Int) : Bool := decide (0 < j ∧ j.natAbs.log2 < 9000)
def powOk (i j : Int) : Bool := decide (0 ≤ j ∧ j ≤ 1000000 ∧ i.natAbs < 2 ^ 64)
def fitLen (n : Nat) : Bool := decide (n ≤ 1000000)
def binD : Bop → D → D → Sto → Res D
  | .add, .int i, .int j, M => .ok (.int (i + j)) M
  | .sub, .int i, .int j, M => .ok (.int (i - j)) M
  | .mul, .int i, .int j, M => if mulOk i j then .ok (.int (i * j)) M else .fail
  | .fdiv, .int i, .int j, M => if divOk j then .ok (.int (i / j)) M else .fail
  | .mod, .int i, .int j, M => if decide (0 < j) then .ok (.int (i % j)) M else .fail
  | .pow, .int i, .int j, M => if powOk i j then .ok (.int (i ^ j.toNat)) M else .fail
  | .add, .str x, .str y, M => if fitLen (x.length + y.length) then .ok (.str (x ++ y)) M else .fail
  | .mul, .str x, .int j, M => if decide (0 ≤ j ∧ j ≤ 1000 ∧ x.length ≤ 1000) then .ok (.str (Txt.mul x j)) M else .fail
  | .add, .lst xs, .lst ys, M => if fitLen (xs.length + ys.length) then .ok (.lst (xs ++ ys)) M else .fail
  | .mul, .lst xs, .int j, M => if decide (0 ≤ j ∧ j ≤ 1000 ∧ xs.length ≤ 1000) then .ok (.lst (List.replicate j.toNat xs).flatten) M else .fail
  | .mul, .tup xs, .int j, M => if decide (0 < xs.length ∧ 1 ≤ j ∧ xs.length * j.toNat ≤ 1000000) then .ok (.tup (List.replicate j.toNat xs).flatten) M else .fail
  | .add, .tup xs, .tup ys, M => if fitLen (xs.length + ys.length) then .ok (.tup (xs ++ ys)) M else .fail
  | _, _, _, _ => .fail
def ltStr (x y : Str) : Bool := decide (x.cps.toList < y.cps.toList)
/-- one sign in a text -/
def inStr (x y : Str) : Option Bool := match x.cps.toList with
  | [c] => some (decide (c ∈ y.cps.toList))
  | _ => none
def inD (M : Sto) (x y : D) : Option Bool := match x, y with
  | .str a, .str b => inStr a b
  | _, .loc n => (match M[n]?, x with
    | some (.lst xs), _ => if x.flat && xs.all D.flat then some (xs.any fun z => D.eqv z x) else if D.fit 64 x && D.fits 63 xs then some (xs.any fun z => D.eqv z x) else none
    | some (.dct kvs), .str a => some (kvs.any fun kv => decide (kv.1 = Sum.inr a))
    | some (.dct kvs), .int a => some (kvs.any fun kv => decide (kv.1 = Sum.inl a))
    | _, _ => none)
  | _, .tup xs => if x.flat && xs.all D.flat then some (xs.any fun z => D.eqv z x) else none
  | _, .lst xs => if x.flat && xs.all D.flat then some (xs.any fun z => D.eqv z x) else if D.fit 64 x && D.fits 63 xs then some (xs.any fun z => D.eqv z x) else none
  | _, _ => none
def cmpD (M : Sto) : Cop → D → D → Option Bool
  | .eq, a, b => eqD M a b
  | .ne, a, b => (eqD M a b).map (!·)
  | .lt, .int i, .int j => some (decide (i < j))
  | .le, .int i, .int j => some (decide (i ≤ j))
  | .gt, .int i, .int j => some (decide (j < i))
  | .ge, .int i, .int j => some (decide (j ≤ i))
  | .lt, .str i, .str j => some (ltStr i j)
  | .inn, a, b => inD M a b
  | .nin, a, b => (inD M a b).map (!·)
  | _, _, _ => none
def tyOf (M : Sto) : D → Option Ty
  | .int _ => some .int
  | .bl _ => some .bool
  | .str _ => some .str
  | .tup _ => some .tup
  | .lst _ => some .lst
  | .non => some .non
  | .loc n => (match M[n]? with
    | some (.lst _) => some .lst
    | some (.dct _) => some .dct
    | _ => none)
  | .scr _ => none
  | .pr _ => none
/-- a kind within a kind -/
def subTy (u t : Ty) : Bool := u == t || (u == .bool && t == .int)
def getK {κ : Type} [DecidableEq κ] (kvs : List (κ × D)) (k : κ) : Option D := (kvs.find? fun kv => decide (kv.1 = k)).map (·.2)
def idxD (M : Sto) : D → D → Option D
  | .str s, .int i => if fitLen s.length then (itemAt s.cps.toList i).map fun c => .str ⟨#[c]⟩ else none
  | .tup xs, .int i => itemAt xs i
  | .lst xs, .int i => itemAt xs i
  | .loc n, k => (match M[n]?, k with
    | some (.lst xs), .int i => itemAt xs i
    | some (.dct kvs), .str x => getK kvs (Sum.inr x)
    | some (.dct kvs), .int x => getK kvs (Sum.inl x)
    | _, _ => none)
  | _, _ => none
def slcD (m : Bool) (d : D) (lo hi : Option Int) (M : Sto) : Res D := match d with
  | .str s => if fitLen s.length then .ok (.str ⟨(cut s.cps.toList lo hi).toArray⟩) M else .fail
  | .lst xs => newList m (cut xs lo hi) M
  | .scr xs => newList m (cut xs lo hi) M
  | .tup xs => .ok (.tup (cut xs lo hi)) M
  | .loc n => (match M[n]? with
    | some (.lst xs) => newList m (cut xs lo hi) M
    | _ => .fail)
  | _ => .fail
/-- (x, *y) -/
def starD (x y : D) (M : Sto) : Res D := match y with
  | .lst ys => if fitLen (ys.length + 1) then .ok (.tup (x :: ys)) M else .fail
  | .tup ys => if fitLen (ys.length + 1) then .ok (.tup (x :: ys)) M else .fail
  | _ => .fail
/-- d[k] = v -/
def putD {κ : Type} [DecidableEq κ] (k : κ) (v : D) (kvs : List (κ × D)) : List (κ × D) :=
  if (kvs.any fun kv => decide (kv.1 = k)) = true then kvs.map (fun kv => if kv.1 = k then (kv.1, v) else kv) else kvs ++ [(k, v)]
def intsD : List D → Option (List Int)
  | [] => some []
  | .int i :: r => (intsD r).map (i :: ·)
  | _ :: _ => none
def strsD : List D → Option (List Str)
  | [] => some []
  | .str i :: r => (strsD r).map (i :: ·)
  | _ :: _ => none
def boolsD : List D → Option (List Bool)
  | [] => some []
  | .bl i :: r => (boolsD r).map (i :: ·)
  | _ :: _ => none
def pairsK : List D → Option (List (Key × D))
  | [] => some []
  | .tup [.str x, v] :: r => (pairsK r).map ((Sum.inr x, v) :: ·)
  | .tup [.int x, v] :: r => (pairsK r).map ((Sum.inl x, v) :: ·)
  | _ :: _ => none
def insStr (x : Str) : List Str → List Str
  | [] => [x]
  | y :: r => if ltStr y x then y :: insStr x r else x :: y :: r
def sortStr (xs : List Str) : List Str := xs.foldr insStr []
def insInt (x : Int) : List Int → List Int
  | [] => [x]
  | y :: r => if y < x then y :: insInt x r else x :: y :: r
def sortInt (xs : List Int) : List Int := xs.foldr insInt []
def dedupStr : List Str → List Str
  | [] => []
  | x :: r => if x ∈ r then dedupStr r else x :: dedupStr r
/-- pairs of a text and a number; by the text, then by the number -/
def prsS : List D → Option (List (Str × Int))
  | [] => some []
  | .tup [.str x, .int i] :: r => (prsS r).map ((x, i) :: ·)
  | _ :: _ => none
def prS (p : Str × Int) : D := .tup [.str p.1, .int p.2]
def lexS (p q : Str × Int) : Bool := if p.1 = q.1 then decide (p.2 < q.2) else ltStr p.1 q.1
def insP (x : Str × Int) : List (Str × Int) → List (Str × Int)
  | [] => [x]
  | y :: r => if lexS y x then y :: insP x r else x :: y :: r
def sortP (xs : List (Str × Int)) : List (Str × Int) := xs.foldr insP []
def keysL : List D → Option (List Key)
  | [] => some []
  | .str x :: r => (keysL r).map (Sum.inr x :: ·)
  | .int x :: r => (keysL r).map (Sum.inl x :: ·)
  | _ :: _ => none
def maxInt : List Int → Option Int
  | [] => none
  | x :: r => some (r.foldl max x)
def minInt : List Int → Option Int
  | [] => none
  | x :: r => some (r.foldl min x)
def dctAt (M : Sto) : D → Option (List (Key × D))
  | .loc n => (match M[n]? with
    | some (.dct kvs) => some kvs
    | _ => none)
  | _ => none
def keyD : Key → D
  | .inl i => .int i
  | .inr x => .str x
def biD (b : Bi) (m : Bool) (ds : List D) (M : Sto) : Res D := match b, ds with
  | .len, [.str s] => if fitLen s.length then .ok (.int s.length) M else .fail
  | .len, [.loc n] => (match M[n]? with
    | some (.lst xs) => .ok (.int xs.length) M
    | some (.dct kvs) => .ok (.int kvs.length) M
    | _ => .fail)
  | .len, [.tup xs] => .ok (.int xs.length) M
  | .len, [.lst xs] => .ok (.int xs.length) M
  | .len, [.scr xs] => .ok (.int xs.length) M
  | .abs, [.int i] => .ok (.int (if i < 0 then -i else i)) M
  | .int, [.int i] => .ok (.int i) M
  | .all, [.lst xs] => (ofO (boolsD xs) M).bind fun bs M => .ok (.bl (bs.all id)) M
  | .any, [.lst xs] => (ofO (boolsD xs) M).bind fun bs M => .ok (.bl (bs.any id)) M
  | .sum, [.lst xs] => (ofO (intsD xs) M).bind fun bs M => .ok (.int bs.sum) M
  | .max, [.lst xs] => (ofO (intsD xs) M).bind fun bs M => (ofO (maxInt bs) M).bind fun i M => .ok (.int i) M
  | .max, [.int i, .int j] => .ok (.int (if j > i then j else i)) M
  | .min, [.int i, .int j] => .ok (.int (if j < i then j else i)) M
  | .tuple, [d] => (ofO (asSeq M d) M).bind fun xs M => .ok (.tup xs) M
  | .list, [.loc n] => (match M[n]? with
    | some (.lst xs) => newList m xs M
    | some (.dct kvs) => newList m (kvs.map fun kv => keyD kv.1) M
    | _ => .fail)
  | .list, [.tup xs] => newList m xs M
  | .list, [.lst xs] => newList m xs M
  | .sorted, [.loc n] => (match M[n]? with
    | some (.dct kvs) => (ofO (strsD (kvs.map fun kv => keyD kv.1)) M).bind fun bs M => if fitLen bs.length then newList m ((sortStr bs).map .str) M else .fail
    | _ => .fail)
  | .sorted, [.lst xs] => (ofO (strsD xs) M).bind fun bs M => if fitLen bs.length then newList m ((sortStr bs).map .str) M else .fail
  | .sset, [.lst xs] => (ofO (strsD xs) M).bind fun bs M => if bs.length < 2000 then newList m ((sortStr (dedupStr bs)).map .str) M else .fail
  | .dict, [d] => (ofO (asSeq M d) M).bind fun xs M => (ofO (pairsK xs) M).bind fun kvs M => .ok (.loc M.length) (M ++ [.dct (kvs.foldl (fun a kv => putD kv.1 kv.2 a) [])])
  | .str, [.int i] => if decide (i.natAbs.log2 < 1920) then .ok (.str (Str.ofString (toString i))) M else .fail
  | .sortp, [.lst xs] => (ofO (prsS xs) M).bind fun ps M => if fitLen ps.length then newList m ((sortP ps).map prS) M else .fail
  | .dzip, [.lst xs, .lst ys] => (ofO (keysL xs) M).bind fun ks M => .ok (.loc M.length) (M ++ [.dct ((ks.zip ys).foldl (fun a kv => putD kv.1 kv.2 a) [])])
  | _, _ => .fail
/-- what has such a method -/
def kindM (f : Mt) (M : Sto) (d : D) : Bool := match d with
  | .loc n => (match M[n]?, f with
    | some (.lst _), .append => true
    | some (.lst _), .pop => true
    | some (.lst _), .popAt => true
    | some (.lst _), .extend => true
    | some (.dct _), .get => true
    | _, _ => false)
  | _ => false
def mthD (f : Mt) (a : D) (ds : List D) (M : Sto) : Res D := match f, a, ds with
  | .append, .loc n, [d] => (match M[n]? with
    | some (.lst xs) => if fitLen xs.length then .ok .non (M.set n (.lst (xs ++ [d]))) else .fail
    | _ => .fail)
  | .pop, .loc n, [] => (match M[n]? with
    | some (.lst xs) => (ofO xs.getLast? M).bind fun d M => .ok d (M.set n (.lst xs.dropLast))
    | _ => .fail)
  | .extend, .loc n, [.lst ys] => (match M[n]? with
    | some (.lst xs) => if fitLen (xs.length + ys.length) then .ok .non (M.set n (.lst (xs ++ ys))) else .fail
    | _ => .fail)
  | .popAt, .loc n, [.int i] => (match M[n]? with
    | some (.lst xs) => if decide (0 ≤ i ∧ i < xs.length ∧ xs.length ≤ 1000000) then (ofO xs[i.toNat]? M).bind fun d M => .ok d (M.set n (.lst (xs.eraseIdx i.toNat))) else .fail
    | _ => .fail)
  | .get, .loc n, [k, d] => (match M[n]?, k with
    | some (.dct kvs), .str x => .ok ((getK kvs (Sum.inr x)).getD d) M
    | some (.dct kvs), .int x => .ok ((getK kvs (Sum.inl x)).getD d) M
    | _, _ => .fail)
  | _, _, _ => .fail
/-- a list that changed, and does no more -/
def frzD (d : D) (M : Sto) : Res D := match d with
  | .loc n => (match M[n]? with
    | some (.lst xs) => .ok (.lst xs) (M.set n .dead)
    | _ => .fail)
  | _ => .fail
def setIx (a i v : D) (M : Sto) : Res Unit := match a with
  | .loc n => (match M[n]?, i with
    | some (.lst xs), .int k => if decide (0 ≤ k ∧ k < xs.length) then .ok () (M.set n (.lst (xs.set k.toNat v))) else .fail
    | some (.dct kvs), .str x => if fitLen kvs.length then .ok () (M.set n (.dct (putD (Sum.inr x) v kvs))) else .fail
    | some (.dct kvs), .int x => if fitLen kvs.length then .ok () (M.set n (.dct (putD (Sum.inl x) v kvs))) else .fail
    | _, _ => .fail)
  | _ => .fail
/-- names take values -/
def asgN : List Nat → List D → En → Option En
  | [], [], env => some env
  | i :: is, d :: ds, env => asgN is ds (env.set i (some d))
  | _, _, _ => none
def asgD : Tg → D → En → Option En
  | .n i, d, env => some (env.set i (some d))
  | .t is, .tup xs, env => asgN is xs env
  | .t is, .pr xs, env => asgN is xs env
  | _, _, _ => none
def wipeE (env : En) : List Nat → En
  | [] => env
  | v :: vs => (wipeE env vs).set v none
def asB : D → Option Bool
  | .bl b => some b
  | _ => none
/-- what a comprehension makes -/
def compGo (t : Tg) (c : En → Sto → Res Bool) (el : En → Sto → Res D) (env : En) : List D → Sto → Res (List D)
  | [], M => .ok [] M
  | d :: r, M => match asgD t d env with
    | none => .fail
    | some env1 => (c env1 M).calm.bind fun b M1 =>
        if b then (el env1 M1).calm.bind fun y M2 => (compGo t c el env r M2).bind fun ys M3 => .ok (y :: ys) M3
        else compGo t c el env r M1
def zipD : List D → List D → List D
  | x :: xs, y :: ys => .pr [x, y] :: zipD xs ys
  | _, _ => []
def enmD : Nat → List D → List D
  | _, [] => []
  | n, x :: xs => .pr [.int n, x] :: enmD (n + 1) xs
def rngD (lo : Int) : Nat → List D
  | 0 => []
  | n + 1 => .int lo :: rngD (lo + 1) n
/-- what is walked: a text's signs, a tuple's, a value list's items -/
def walkD : D → Option (List D)
  | .str s => if fitLen s.length then some (s.cps.toList.map fun c => .str ⟨#[c]⟩) else none
  | .tup xs => some xs
  | .lst xs => some xs
  | .scr xs => some xs
  | _ => none
abbrev Calls := String → List D → Sto → Res D
/-- the word for an error -/
def HF.tag (hs : List (String × Str)) (c : String) : Option Str := (hs.find? fun h => decide (h.1 = c)).map (·.2)
/-- what such a def answers -/
def hearD (h : HF) (r : Res D) : Res D := match r with
  | .ok d M => .ok (.tup [.str "told", match h.k with
    | .zero => .int 0
    | _ => d]) M
  | .exc c (some d) M => (match HF.tag h.hs c with
    | some t => .ok (.tup [.str t, d]) M
    | none => .fail)
  | _ => .fail
/-- a comprehension with two fors: the second source is reckoned anew behind each turn's store -/
def compGo2 (t : Tg) (c : En → Sto → Res Bool) (it1 : En → Sto → Res (List D)) (t1 : Tg) (c1 : En → Sto → Res Bool) (el : En → Sto → Res D) (own1 : List Nat) (env : En) : List D → Sto → Res (List D)
  | [], M => .ok [] M
  | d :: r, M => match asgD t d env with
    | none => .fail
    | some env1 => (c env1 M).calm.bind fun b M1 =>
        if b then (it1 env1 M1).calm.bind fun items1 M2 =>
          if decide (items1.length ≤ 1000) then (compGo t1 c1 el (wipeE env1 own1) items1 M2).bind fun ys M3 => (compGo2 t c it1 t1 c1 el own1 env r M3).bind fun zs M4 => .ok (ys ++ zs) M4 else .fail
        else compGo2 t c it1 t1 c1 el own1 env r M1
mutual
def evE (C : Calls) : E → En → Sto → Res D
  | .var i, env, M => (match env[i]? with
    | some (some d) => .ok d M
    | _ => .fail)
  | .cst d, _, M => .ok d M
  | .gl _ d, _, M => .ok d M
  | .bin op a b, env, M => (evE C a env M).bind fun x M1 => (evE C b env M1).bind fun y M2 => binD op x y M2
  | .neg a, env, M => (evE C a env M).bind fun x M1 => (match x with
    | .int i => .ok (.int (-i)) M1
    | _ => .fail)
  | .cmp op a b, env, M => (evE C a env M).bind fun x M1 => (evE C b env M1).bind fun y M2 => (ofO (cmpD M2 op x y) M2).bind fun k M3 => .ok (.bl k) M3
  | .chain o1 o2 a b c, env, M => (evE C a env M).bind fun x M1 => (evE C b env M1).bind fun y M2 => (ofO (cmpD M2 o1 x y) M2).bind fun k M3 =>
      if k then (evE C c env M3).bind fun z M4 => (ofO (cmpD M4 o2 y z) M4).bind fun k2 M5 => .ok (.bl k2) M5 else .ok (.bl false) M3
  | .isN g a, env, M => (evE C a env M).bind fun x M1 => .ok (.bl (match x with | .non => !g | _ => g)) M1
  | .isB g b a, env, M => (evE C a env M).bind fun x M1 => .ok (.bl (match x with | .bl c => (c == b) != g | _ => g)) M1
  | .boo k es, env, M => evBoo C k es env M
  | .not a, env, M => (evE C a env M).bind fun x M1 => (ofO (asB x) M1).bind fun k M2 => .ok (.bl (!k)) M2
  | .ite c a b, env, M => (evE C c env M).bind fun x M1 => (ofO (asB x) M1).bind fun k M2 => if k then evE C a env M2 else evE C b env M2
  | .tup es, env, M => (evEs C es env M).bind fun xs M1 => .ok (.tup xs) M1
  | .tstar a b, env, M => (evE C a env M).bind fun x M1 => (evE C b env M1).bind fun y M2 => starD x y M2
  | .lst m es, env, M => (evEs C es env M).bind fun xs M1 => newList m xs M1
  | .dic0, _, M => .ok (.loc M.length) (M ++ [.dct []])
  | .idx a i, env, M => (evE C a env M).bind fun x M1 => (evE C i env M1).bind fun y M2 => ofO (idxD M2 x y) M2
  | .slc m a lo hi, env, M => (evE C a env M).bind fun x M1 => (evO C lo env M1).bind fun l M2 => (evO C hi env M2).bind fun h M3 => slcD m x l h M3
  | .rev m a, env, M => (evE C a env M).bind fun x M1 => (match x with
    | .lst xs => newList m xs.reverse M1
    | _ => .fail)
  | .call f es, env, M => (evEs C es env M).bind fun xs M1 => C f xs M1
  | .callk f es _ kes, env, M => (evEs C es env M).bind fun xs M1 => (evEs C kes env M1).bind fun ys M2 => C f (xs ++ ys) M2
  | .bi b m es, env, M => (evEs C es env M).bind fun xs M1 => biD b m xs M1
  | .isi a _ ts, env, M => (evE C a env M).bind fun x M1 => (ofO (tyOf M1 x) M1).bind fun u M2 => .ok (.bl (ts.any (subTy u))) M2
  | .mth f a es, env, M => (evE C a env M).bind fun x M1 => if kindM f M1 x then (evEs C es env M1).bind fun xs M2 => mthD f x xs M2 else .fail
  | .comp m el t it c own, env, M => (evIt C it env M).bind fun items M1 =>
      (compGo t (fun env M => evC C c env M) (fun env M => evE C el env M) (wipeE env own) items M1).bind fun ys M2 => newList m ys M2
  | .comp2 m el t it c t1 it1 c1 own own1, env, M => (evIt C it env M).bind fun items M1 => if decide (items.length ≤ 1000) then
      (compGo2 t (fun env M => evC C c env M) (fun env M => evIt C it1 env M) t1 (fun env M => evC C c1 env M) (fun env M => evE C el env M) own1 (wipeE env own) items M1).bind fun ys M2 => newList m ys M2 else .fail
  | .heard _ h body, env, M => hearD h (evE C body env M)
  | .frz a, env, M => (evE C a env M).bind fun x M1 => frzD x M1
  | .nvr, _, _ => .fail
def evBoo (C : Calls) (k : Bool) : Es → En → Sto → Res D
  | .nil, _, _ => .fail
  | .cons e .nil, env, M => evE C e env M
  | .cons e (.cons e2 r), env, M => (evE C e env M).bind fun x M1 => (ofO (asB x) M1).bind fun b M2 => if b == k then evBoo C k (.cons e2 r) env M2 else .ok (.bl (!k)) M2
def evEs (C : Calls) : Es → En → Sto → Res (List D)
  | .nil, _, M => .ok [] M
  | .cons e es, env, M => (evE C e env M).bind fun x M1 => (evEs C es env M1).bind fun xs M2 => .ok (x :: xs) M2
def evO (C : Calls) : Oe → En → Sto → Res (Option Int)
  | .non, _, M => .ok none M
  | .som e, env, M => (evE C e env M).bind fun x M1 => (match x with
    | .int i => .ok (some i) M1
    | _ => .fail)
/-- a comprehension's test -/
def evC (C : Calls) : Oe → En → Sto → Res Bool
  | .non, _, M => .ok true M
  | .som e, env, M => (evE C e env M).bind fun x M1 => ofO (asB x) M1
def evIt (C : Calls) : It → En → Sto → Res (List D)
  | .sq e, env, M => (evE C e env M).bind fun x M1 => ofO (walkD x) M1
  | .rng es, env, M => (evEs C es env M).bind fun xs M1 => (match xs with
    | [.int n] => if fitLen n.natAbs then .ok (rngD 0 n.toNat) M1 else .fail
    | [.int lo, .int hi] => if fitLen lo.natAbs && fitLen hi.natAbs then .ok (rngD lo (hi - lo).toNat) M1 else .fail
    | _ => .fail)
  | .enm e, env, M => (evE C e env M).bind fun x M1 => (match x with
    | .lst xs => .ok (enmD 0 xs) M1
    | _ => .fail)
  | .zip a b, env, M => (evE C a env M).bind fun x M1 => (evE C b env M1).bind fun y M2 => (match x, y with
    | .lst xs, .lst ys => .ok (zipD xs ys) M2
    | .tup xs, .tup ys => .ok (zipD xs ys) M2
    | _, _ => .fail)
end
inductive Fl where
  | nx (env : En)
  | brk (env : En)
  | cnt (env : En)
  | ret (d : D)
  | exc (env : En) (c : String) (p : Option D)
/-- statements tell how they end -/
inductive Out where
  | ok (f : Fl) (M : Sto)
  | fail
def Res.out {α : Type} (r : Res α) (env : En) (f : α → Sto → Out) : Out := match r with
  | .ok a M => f a M
  | .exc c p M => .ok (.exc env c p) M
  | .fail => .fail
@[simp] theorem out_ok {α : Type} (a : α) (M : Sto) (env : En) (f : α → Sto → Out) : (Res.ok a M).out env f = f a M := rfl
@[simp] theorem out_exc {α : Type} (c : String) (p : Option D) (M : Sto) (env : En) (f : α → Sto → Out) : (Res.exc c p M : Res α).out env f = .ok (.exc env c p) M := rfl
@[simp] theorem out_fail {α : Type} (env : En) (f : α → Sto → Out) : (Res.fail : Res α).out env f = .fail := rfl
def Out.next (o : Out) (f : En → Sto → Out) : Out := match o with
  | .ok (.nx env) M => f env M
  | o => o
@[simp] theorem next_nx (env : En) (M : Sto) (f : En → Sto → Out) : (Out.ok (.nx env) M).next f = f env M := rfl
@[simp] theorem next_ret (d : D) (M : Sto) (f : En → Sto → Out) : (Out.ok (.ret d) M).next f = .ok (.ret d) M := rfl
@[simp] theorem next_brk (env : En) (M : Sto) (f : En → Sto → Out) : (Out.ok (.brk env) M).next f = .ok (.brk env) M := rfl
@[simp] theorem next_cnt (env : En) (M : Sto) (f : En → Sto → Out) : (Out.ok (.cnt env) M).next f = .ok (.cnt env) M := rfl
@[simp] theorem next_exc (env : En) (c : String) (p : Option D) (M : Sto) (f : En → Sto → Out) : (Out.ok (.exc env c p) M).next f = .ok (.exc env c p) M := rfl
@[simp] theorem next_fail (f : En → Sto → Out) : Out.fail.next f = .fail := rfl
/-- a loop's turns -/
def forGo (t : Tg) (b : En → Sto → Out) : List D → En → Sto → Out
  | [], env, M => .ok (.nx env) M
  | d :: r, env, M => match asgD t d env with
    | none => .fail
    | some env1 => (match b env1 M with
      | .ok (.nx env2) M2 => forGo t b r env2 M2
      | .ok (.cnt env2) M2 => forGo t b r env2 M2
      | .ok (.brk env2) M2 => .ok (.nx env2) M2
      | o => o)
/-- so many turns of a while at most -/
def whlN (c : En → Sto → Res D) (b : En → Sto → Out) : Nat → En → Sto → Out
  | 0, _, _ => .fail
  | n + 1, env, M => (c env M).out env fun x M1 => match x with
    | .bl true => (match b env M1 with
      | .ok (.nx env2) M2 => whlN c b n env2 M2
      | .ok (.cnt env2) M2 => whlN c b n env2 M2
      | .ok (.brk env2) M2 => .ok (.nx env2) M2
      | o => o)
    | .bl false => .ok (.nx env) M1
    | _ => .fail
open Classical in
noncomputable def whlGo (c : En → Sto → Res D) (b : En → Sto → Out) (env : En) (M : Sto) : Out :=
  if h : ∃ n, whlN c b n env M ≠ .fail then whlN c b (Classical.choose h) env M else .fail
/-- .. of a try whose clauses tell what is kept of the error -/
def hearS (hs : List (String × Str)) (o : Out) : Out := match o with
  | .ok (.exc _ c (some d)) M => (match HF.tag hs c with
    | some t => .ok (.ret (.tup [.str t, d])) M
    | none => .fail)
  | .ok (.exc _ _ none) _ => .fail
  | o => o
mutual
noncomputable def evS (C : Calls) : S → En → Sto → Out
  | .ex e, env, M => (evE C e env M).out env fun _ M1 => .ok (.nx env) M1
  | .asg t e, env, M => (evE C e env M).out env fun x M1 => (match asgD t x env with
    | some env1 => .ok (.nx env1) M1
    | none => .fail)
  | .asgIx a i e, env, M => (evE C e env M).out env fun v M1 => (evE C a env M1).out env fun x M2 => (evE C i env M2).out env fun y M3 => (setIx x y v M3).out env fun _ M4 => .ok (.nx env) M4
  | .aug i op e, env, M => (match env[i]? with
    | some (some x) => (evE C e env M).out env fun y M1 => (match x, y with
      | .int p, .int q => (binD op (.int p) (.int q) M1).out env fun z M2 => .ok (.nx (env.set i (some z))) M2
      | _, _ => .fail)
    | _ => .fail)
  | .ret .non, _, M => .ok (.ret .non) M
  | .ret (.som e), env, M => (evE C e env M).out env fun x M1 => .ok (.ret x) M1
  | .iff c a b, env, M => (evE C c env M).out env fun x M1 => (match x with
    | .bl true => evSs C a env M1
    | .bl false => evSs C b env M1
    | _ => .fail)
  | .whl c b, env, M => whlGo (fun env M => evE C c env M) (fun env M => evSs C b env M) env M
  | .for_ t it b, env, M => (evIt C it env M).out env fun items M1 => forGo t (fun env M => evSs C b env M) items env M1
  | .rais c es, env, M => (evEs C es env M).out env fun xs M1 => (match xs with
    | [] => .ok (.exc env c none) M1
    | [d] => .ok (.exc env c (some d)) M1
    | _ => .fail)
  | .tr b _ hs, env, M => hearS hs (evSs C b env M)
  | .pas, env, M => .ok (.nx env) M
  | .brk, env, M => .ok (.brk env) M
  | .cnt, env, M => .ok (.cnt env) M
  | .nvr, _, _ => .fail
noncomputable def evSs (C : Calls) : Ss → En → Sto → Out
  | .nil, env, M => .ok (.nx env) M
  | .cons s r, env, M => (evS C s env M).next fun env1 M1 => evSs C r env1 M1
end
/-! ### defs -/
mutual
/-- a value with the lists made since n told by what they hold; none where something else is new -/
def D.frz (M : Sto) (n : Nat) : D → Option D
  | .tup xs => (D.frzs M n xs).map .tup
  | .lst xs => (D.frzs M n xs).map .lst
  | .scr xs => (D.frzs M n xs).map .scr
  | .pr _ => none
  | .loc k => if k < n then some (.loc k) else (match M[k]? with
    | some (.lst xs) => if xs.all D.flat then some (.lst xs) else none
    | _ => none)
  | d => some d
def D.frzs (M : Sto) (n : Nat) : List D → Option (List D)
  | [] => some []
  | x :: xs => (D.frz M n x).bind fun y => (D.frzs M n xs).map (y :: ·)
end
open Classical in
/-- behind a def that leaves nothing new: the store as it was -/
noncomputable def back (own : Bool) (M : Sto) (d : D) (M' : Sto) : Res D :=
  if own = true then (if M'.take M.length = M then (match D.frz M' M.length d with
    | some r => .ok r M
    | none => .fail) else .fail) else .ok d M'
open Classical in
/-- .. and an error leaves it -/
noncomputable def backX (own : Bool) (M : Sto) (c : String) (p : Option D) (M' : Sto) : Res D :=
  if own = true then (if M'.take M.length = M then (match p with
    | none => .exc c none M
    | some d => (match D.frz M' M.length d with
      | some r => .exc c (some r) M
      | none => .fail)) else .fail) else .exc c p M'
noncomputable def runF (C : Calls) (fn : Fn) (ds : List D) (M : Sto) : Res D :=
  if ds.length = fn.np then
    (match evSs C fn.body (ds.map some ++ List.replicate (fn.ns - fn.np) none) M with
    | .ok (.nx _) M' => back fn.own M .non M'
    | .ok (.ret d) M' => back fn.own M d M'
    | .ok (.exc _ c p) M' => backX fn.own M c p M'
    | _ => .fail)
  else .fail
noncomputable def callN (T : String → Option Fn) : Nat → Calls
  | 0 => fun _ _ _ => .fail
  | n + 1 => fun f ds M => match T f with
    | some fn => runF (callN T (n - fn.low)) fn ds M
    | none => .fail
termination_by n => n
decreasing_by omega
end Z


namespace ZT
open PySem PySem.Spec PyProof.Rows L2
def keyT (e : Int × Value) : Str := PyProof.Rows.strOf e.2
def GoodT (w : World) (e : Int × Value) : Prop := ∃ k tk, e.2 = Value.str k tk ∧ e.1 = hashStr w k

/-- the set of ints at a: S its members, n their number; its table rises and can be walked -/
def SetT (w : World) (h : Heap) (a : Addr) (S : Str → Bool) (n : Nat) : Prop :=
  ∃ o es ep t, h.get? a = some o ∧ o.ExactSet ∧ o.data = .set es ep t ∧ (∀ e ∈ es.toList, GoodT w e) ∧ (es.toList.map keyT).Nodup ∧ (∀ k, S k = true ↔ k ∈ es.toList.map keyT) ∧
    es.size < scanBound ∧ t.fits es.size = true ∧ es.size = n ∧ Ris t.place.toList ∧ (w.params.followText "set-order" = true ∨ t.led = true)

section
variable {P : Program} {w : World} {h h' : Heap} {a : Addr} {S : Str → Bool} {n : Nat}

theorem SetT.at (R : SetT w h a S n) (k : ∀ o, h.get? a = some o → h'.get? a = some o) : SetT w h' a S n := by
  obtain ⟨o, es, ep, t, ho, r⟩ := R
  exact ⟨o, es, ep, t, k o ho, r⟩
theorem SetT.lt (R : SetT w h a S n) : a < h.objs.size := by
  obtain ⟨o, es, ep, t, ho, r⟩ := R
  exact Heap.lt_size ho
theorem SetT.congr {S' : Str → Bool} (R : SetT w h a S n) (e : ∀ k, S' k = S k) : SetT w h a S' n := by
  have q : S' = S := funext e
  rw [q]; exact R
theorem goodT_elems {l : List (Int × Value)} (g : ∀ e ∈ l, GoodT w e) : ElemsOf (strKind P w) l := fun e he => by
  obtain ⟨k, tk, h1, h2⟩ := g e he
  exact ⟨⟨k, by rw [h1]; exact PySem.Froz.is_str k tk, h2⟩, by rw [h1] <;> rfl⟩
theorem goodT_is {e : Int × Value} (g : GoodT w e) (k : Str) : (strKind P w).is k e.2 = true ↔ keyT e = k := by
  obtain ⟨k0, tk, h1, _⟩ := g
  unfold keyT
  rw [h1]
  show ((k0 == k) = true) ↔ k0 = k
  exact beq_iff_eq
theorem goodT_mem {l : List (Int × Value)} (g : ∀ e ∈ l, GoodT w e) (k : Str) : k ∈ l.map keyT ↔ ∃ e ∈ l, (strKind P w).is k e.2 = true := by
  rw [List.mem_map]
  constructor
  · rintro ⟨e, he, q⟩
    exact ⟨e, he, (goodT_is (g e he) k).2 q⟩
  · rintro ⟨e, he, q⟩
    exact ⟨e, he, (goodT_is (g e he) k).1 q⟩
theorem SetT.setOf (R : SetT w h a S n) : h.SetOf (strKind P w) a S n := by
  obtain ⟨o, es, ep, t, ho, hx, hd, g, nd, hm, hb, hf, hn, _⟩ := R
  exact ⟨o, es, ep, t, ho, hx, hd, goodT_elems g, fun k => (hm k).trans (goodT_mem g k), hb, hf, hn⟩
end

section
variable {P : Program} {w : World} {A : Around} {E : Value → Shared → Prop} {s : Shared} {a : Addr} {S : Str → Bool} {n : Nat}

/-! ### add -/
theorem storeT_at {h : Heap} {a : Addr} {o : Obj} {es es' : Array (Int × Value)} {ep : Nat} {t t' : SetTable} (ho : h.get? a = some o) (hd : o.data = .set es ep t) :
    (h.update a (Obj.putSet es' t')).get? a = some { o with data := .set es' (ep + 1) t' } := by
  have q := Heap.get?_update_self (Obj.putSet es' t') ho (by rw [putSet_of es' t' hd]; rfl)
  rw [putSet_of es' t' hd] at q
  exact q

theorem setT_add_tail {g : Bool → Sem Unit} (hg : ∀ (b : Bool) (s₁ : Shared) (Q' : Unit → Shared → Prop), Q' () s₁ → wpAny (model P w) A (g b) Q' E s₁)
    {o : Obj} {es : Array (Int × Value)} {ep : Nat} {t : SetTable} (ho : s.heap.get? a = some o) (hex : o.ExactSet) (hd : o.data = .set es ep t)
    {es1 : Array (Int × Value)} {t2 : SetTable} {S' : Str → Bool} (g1 : ∀ e ∈ es1.toList, GoodT w e) (nd1 : (es1.toList.map keyT).Nodup) (m1 : ∀ k, S' k = true ↔ k ∈ es1.toList.map keyT)
    (hb1 : es1.size < scanBound) (hf2 : t2.fits es1.size = true) (hr : Ris t2.place.toList) (hl : w.params.followText "set-order" = true ∨ t2.led = true) {wasDummy : Bool} {R : Option Bool → Shared → Prop}
    (hR : ∀ h', Heap.SameBut a s.heap h' → SetT w h' a S' es1.size → R (some true) { s with heap := h' }) :
    wpAny (model P w) A (do
        storeSet a es1 t2
        if (!wasDummy && t2.tooFull) = true then do
            g (relayAll t2 es1 (SetTable.grown es1.size)).2.2
            storeSet a (relayAll t2 es1 (SetTable.grown es1.size)).1 (relayAll t2 es1 (SetTable.grown es1.size)).2.1
            pure (some true)
          else pure (some true)) R E s := by
  refine wpAny_bind (wpAny_storeSet_of ho hd ?_ (fits_of_scanBound hb1))
  have ho1 := storeT_at (es' := es1) (t' := t2) ho hd
  have sb1 := Heap.SameBut.update s.heap a (Obj.putSet es1 t2)
  split
  · have pm := relayAll_perm t2 es1 (SetTable.grown es1.size)
    have hf3 := relayAll_fits t2 es1 (SetTable.grown es1.size)
    have hr3 := relayAll_ris t2 es1 (SetTable.grown es1.size)
    have hl3 := relayAll_led t2 es1 (SetTable.grown es1.size)
    generalize relayAll t2 es1 (SetTable.grown es1.size) = Z at pm hf3 hr3 hl3 ⊢
    obtain ⟨es2, t3, gave⟩ := Z
    dsimp only at pm hf3 hr3 hl3 ⊢
    have hsz : es2.size = es1.size := by rw [← Array.length_toList, pm.length_eq, Array.length_toList]
    have hb2 : es2.size < scanBound := by rw [hsz]; exact hb1
    refine wpAny_bind (hg _ _ _ ?_)
    refine wpAny_bind (wpAny_storeSet_of ho1 rfl ?_ (fits_of_scanBound hb2))
    have ho2 := storeT_at (es' := es2) (t' := t3) ho1 rfl
    refine wpAny_pure (hR _ (sb1.trans (Heap.SameBut.update _ a _)) ?_)
    exact ⟨_, es2, _, t3, ho2, hex, rfl, fun e he => g1 e (pm.mem_iff.mp he), (pm.map keyT).nodup_iff.mpr nd1, fun k => (m1 k).trans (pm.map keyT).mem_iff.symm, hb2, hf3, hsz, hr3,
      hl.imp id fun z => by rw [hl3]; exact z⟩
  · exact wpAny_pure (hR _ sb1 ⟨_, es1, _, t2, ho1, hex, rfl, g1, nd1, m1, hb1, hf2, rfl, hr, hl⟩)

theorem setT_add_hashed {k : Str} {tk : Tok} {Q : Bool → Shared → Prop} (R : SetT w s.heap a S n) (room : n + 1 < scanBound)
    (hQ : ∀ h', Heap.SameBut a s.heap h' → SetT w h' a (fun j => S j || decide (j = k)) (if S k = true then n else n + 1) → Q (!S k) { s with heap := h' }) :
    wpAny (model P w) A (setAddHashed a (.str k tk) ((strKind P w).hash k)) Q E s := by
  obtain ⟨o, es, ep, t, ho, hex, hd, g, nd, hm, hb, hf, hn, hr, hl⟩ := R
  have hkey : (strKind P w).is k (.str k tk) = true := PySem.Froz.is_str k tk
  have hsc : (Value.str k tk).scannable = true := rfl
  have hel : ElemsOf (strKind P w) es.toList := goodT_elems g
  unfold setAddHashed setAddHashedIn
  refine wpAny_holding (wpAny_bind (wpAny_setState_of ho hd hf ?_))
  dsimp only
  rw [byScan_of hsc hb hel]
  simp only [↓reduceIte]
  unfold setAddByScan
  refine wpAny_bind ?_
  refine wpAny_bind (wpAny_rule ?_)
  refine wpAny_bind (wpAny_setScan_of hkey ho hd hf hel ?_)
  cases hfi : List.findIdx? (fun e => (strKind P w).is k e.2) es.toList with
  | some j =>
    dsimp only
    obtain ⟨hj, pj, _⟩ := List.findIdx?_eq_some_iff_getElem.mp hfi
    have hSk : S k = true := (hm k).2 ((goodT_mem (P := P) (w := w) g k).2 ⟨es.toList[j], List.getElem_mem hj, pj⟩)
    refine wpAny_pure (wpAny_pure ?_)
    have q := hQ s.heap (Heap.SameBut.refl a s.heap) ⟨o, es, ep, t, ho, hex, hd, g, nd, fun i => by
      rw [Bool.or_eq_true, decide_eq_true_eq, ← hm i]
      exact ⟨fun z => z.elim id (fun e => e ▸ hSk), .inl⟩, hb, hf, by rw [if_pos hSk]; exact hn, hr, hl⟩
    rw [hSk] at q
    exact q
  | none =>
    dsimp only
    have hnk : k ∉ es.toList.map keyT := fun z => by
      obtain ⟨e, he, q⟩ := (goodT_mem (P := P) (w := w) g k).1 z
      have c := List.findIdx?_eq_none_iff.mp hfi e he
      rw [q] at c
      cases c
    have hSk : S k = false := by
      cases q : S k with
      | false => rfl
      | true => exact absurd ((hm k).1 q) hnk
    have hgw : ∀ (b : Bool) {s₁ : Shared} {Q' : Unit → Shared → Prop}, Q' () s₁ → wpAny (model P w) A (match b with | true => rule "set.scan.the-table-gave-way" | false => pure ()) Q' E s₁ :=
      fun b s₁ Q' q => by cases b <;> first | exact wpAny_pure q | exact wpAny_rule q
    have pm := layNew_perm t es ((strKind P w).hash k) (.str k tk)
    have hf1 := layNew_fits t es ((strKind P w).hash k) (.str k tk)
    have hr1 := layNew_ris t es ((strKind P w).hash k) (.str k tk) hr
    have hl1 := layNew_led t es ((strKind P w).hash k) (.str k tk)
    generalize layNew t es ((strKind P w).hash k) (.str k tk) = Z at pm hf1 hr1 hl1 ⊢
    obtain ⟨es1, t1, wasDummy, gave⟩ := Z
    dsimp only at pm hf1 hr1 hl1 ⊢
    rw [Array.toList_push] at pm
    have pc : es1.toList.Perm (((strKind P w).hash k, Value.str k tk) :: es.toList) := pm.trans (List.perm_append_singleton _ _)
    have pk : (es1.toList.map keyT).Perm (k :: es.toList.map keyT) := pc.map keyT
    have g1 : ∀ e ∈ es1.toList, GoodT w e := fun e he => by
      rcases List.mem_cons.mp (pc.mem_iff.mp he) with z | z
      · rw [z]; exact ⟨k, tk, rfl, rfl⟩
      · exact g e z
    have nd1 : (es1.toList.map keyT).Nodup := pk.nodup_iff.mpr (List.nodup_cons.mpr ⟨hnk, nd⟩)
    have m1 : ∀ i, (S i || decide (i = k)) = true ↔ i ∈ es1.toList.map keyT := fun i => by
      rw [Bool.or_eq_true, decide_eq_true_eq, hm i, pk.mem_iff, List.mem_cons]
      exact Or.comm
    have hsz : es1.size = n + 1 := by rw [← Array.length_toList, pc.length_eq, List.length_cons, Array.length_toList, hn]
    have hb1 : es1.size < scanBound := by rw [hsz]; exact room
    have hled : w.params.followText "set-order" = true ∨ t1.led = true := hl.imp id fun z => by rw [hl1]; exact z
    have fin : ∀ h', Heap.SameBut a s.heap h' → SetT w h' a (fun j => S j || decide (j = k)) es1.size → Q true { s with heap := h' } := fun h' sb r => by
      have q := hQ h' sb
      rw [hSk] at q
      rw [hsz] at r
      exact q r
    refine wpAny_bind (hgw _ ?_)
    split
    · refine wpAny_bind ?_
      rw [hashByValue_scannable 8 hsc]
      refine wpAny_pure ?_
      refine setT_add_tail ?_ ho hex hd g1 nd1 m1 hb1 ?_ ?_ ?_ ?_
      · intro b s₁ Q' q; cases b <;> first | exact wpAny_pure q | exact wpAny_rule q
      · first | (split <;> first | exact hf1 | exact SetTable.fits_plain_off hf1) | exact hf1
      · first | (split <;> exact hr1) | exact hr1
      · first | (split <;> exact hled) | exact hled
      · intro h' sb r; dsimp only; exact wpAny_pure (fin h' sb r)
    · refine wpAny_bind (wpAny_pure ?_)
      simp only [↓reduceIte]
      refine setT_add_tail ?_ ho hex hd g1 nd1 m1 hb1 hf1 hr1 hled ?_
      · intro b s₁ Q' q; cases b <;> first | exact wpAny_pure q | exact wpAny_rule q
      · intro h' sb r; dsimp only; exact wpAny_pure (fin h' sb r)

end
/-! ### set(t) of a tuple of ints -/
theorem setT_new_at {w : World} {h : Heap} {a : Addr} {ns : List Str} (ho : h.get? a = some { cls := .type "set", dict := none, data := .set #[] 0 (.fresh 0 0 (!w.params.followText "set-order")) }) : SetT w h a (fun j => decide (j ∈ ns.take 0)) 0 :=
  ⟨_, #[], 0, _, ho, ⟨rfl, rfl, rfl⟩, rfl, (fun e he => by simp at he), (by simp), (fun k => by simp), (by decide), (by rfl), rfl, List.Pairwise.nil, by
    show _ ∨ (!w.params.followText "set-order") = true
    cases w.params.followText "set-order"
    · exact .inr rfl
    · exact .inl rfl⟩
section
variable {P : Program} {w : World} {A : Around} {E : Value → Shared → Prop} {s : Shared}
theorem set_update_strs {I : Addr} {fp wr : List Addr} {G : Array GenState → Array GenState → Prop} {n : Nat} {Pv : Nat → Value → Prop} {St : Nat → Shared → Prop} {R : Result → Shared → Prop}
    (W : WalksS P w A.in1 I fp wr G n Pv St) (S : Addr) (hSf : S ∉ fp) (ns : List Str) (hn : n = ns.length) (hb : ns.length + 1 < scanBound) (hval : ∀ i v, Pv i v → ∃ k t, ns[i]? = some k ∧ v = .str k t) :
    ∀ (k i : Nat) (s : Shared), n - i = k → i ≤ n → St i s → (∃ c, c ≤ i ∧ SetT w s.heap S (fun j => decide (j ∈ ns.take i)) c) →
      (∀ s' c, Moved (S :: wr) G s s' → c ≤ n → SetT w s'.heap S (fun j => decide (j ∈ ns)) c → R (.ok (.ret .none)) s') →
      codeAny (model P w) A (.builtin "set.update.loop" ⟨[.ref S, .ref I], []⟩) R s := by
  have hSw : S ∉ wr := fun h => hSf (W.sub _ h)
  have hsub : ∀ b ∈ wr, b ∈ S :: wr := fun b hb => List.mem_cons_of_mem _ hb
  intro k
  induction k with
  | zero =>
    intro i s hk' hi hst ⟨c, hc, hS⟩ hR
    have hin : i = n := by omega
    subst hin
    refine codeAny_builtin F.entry_set_update_loop ?_
    rw [Around.under_plainId F.plain_set_update_loop _]
    show wpAny _ A.in1 (pyNext (.ref I) >>= _) _ _ s
    refine wpAny_bind (W.done s _ _ hst fun s' hm => ?_)
    show wpAny _ A.in1 (ret Value.none) _ _ s'
    have e : ns.take i = ns := List.take_of_length_le (by omega)
    rw [e] at hS
    exact wpAny_pure (hR s' c (hm.mono hsub) hc (hS.at fun o e => hm.heap S o hSw e))
  | succ k ih =>
    intro i s hk' hi hst ⟨c, hc, hS⟩ hR
    have hlt : i < n := by omega
    refine codeAny_builtin F.entry_set_update_loop ?_
    rw [Around.under_plainId F.plain_set_update_loop _]
    show wpAny _ A.in1 (pyNext (.ref I) >>= _) _ _ s
    refine wpAny_bind (W.item i s _ _ hlt hst fun v s' hP hst' hm => ?_)
    obtain ⟨z, t, hz, rfl⟩ := hval i v hP
    have hS' : SetT w s'.heap S (fun j => decide (j ∈ ns.take i)) c := hS.at fun o e => hm.heap S o hSw e
    show wpAny _ A.in1 (holding [Value.str z t] (setAdd S (.str z t)) >>= _) _ _ s'
    refine wpAny_bind (wpAny_holding ?_)
    unfold setAdd
    refine wpAny_holding ?_
    refine wpAny_bind ((strKind P w).pyHash (k := z) (PySem.Froz.is_str _ _) ?_)
    refine setT_add_hashed (s := { s' with toks := s'.toks + 1 }) hS' (by omega) fun h' hsb hS2 => ?_
    have hS3 : SetT w h' S (fun j => decide (j ∈ ns.take (i + 1))) (if decide (z ∈ ns.take i) = true then c else c + 1) := hS2.congr fun j => by
      rw [List.take_add_one, hz]
      simp [List.mem_append]
    have hc3 : (if decide (z ∈ ns.take i) = true then c else c + 1) ≤ i + 1 := by
      split <;> omega
    refine wpAny_pure ⟨plainId_quiet F.plain_set_update_loop _, ih (i + 1) _ (by omega) hlt (W.frame _ s' _ _ hst' (Nat.le_succ _) fun b hb o e => ?_) ⟨_, hc3, hS3⟩ fun s'' c2 hm'' hc'' hS'' => ?_⟩
    · rw [hsb.2 b (fun h : b = S => hSf (by rw [← h]; exact hb))]; exact e
    · refine hR s'' c2 (Moved.trans W.gtrans ((hm.mono hsub).then_heap (Nat.le_succ _) fun b o hb e => ?_) hm'') hc'' hS''
      rw [hsb.2 b (fun h : b = S => hb (by rw [h]; exact List.mem_cons_self))]; exact e

theorem code_set_ledT (a : Value) {Q₁ : Value → Shared → Prop}
    (h : Q₁ (.ref s.heap.objs.size) { s with heap := s.heap.push { cls := .type "set", dict := none, data := .set #[] 0 (.fresh 0 0 (!w.params.followText "set-order")) } }) :
    codeAny (model P w) A (.call (.builtin "set.__new__") ⟨[.type "set", a], []⟩) (wants Q₁ E) s := by
  refine codeAny_of_tree ?_
  show wpAny _ A.in1 (do checkBuiltinCall "set.__new__" ⟨[.type "set", a], []⟩; again (.builtin "set.__new__" ⟨[.type "set", a], []⟩)) _ _ s
  refine wpAny_bind (wpAny_of_eq (F.newCall_set_1 a) (wpAny_pure ⟨plainId_quiet F.plain_set_new _, codeAny_builtin F.entry_set_new ?_⟩))
  rw [Around.under_plainId F.plain_set_new _]
  unfold Builtin.«set.__new__» Builtin.Frozenset.newClass
  have hsub := sub_set_self
  obtain ⟨hp, g, d, tk, os⟩ := s
  dsimp only
  wp_walk
  refine wpAny_askSetting (wpAny_pure ?_)
  dsimp only
  simp only [newObj]
  refine wpAny_bind (wpAny_alloc (wpAny_pure ?_))
  exact wpAny_pure h

set_option maxRecDepth 100000 in
set_option maxHeartbeats 3200000 in
theorem call_set_lstS {l : Addr} {items : Array Value} (ns : List Str) {Q : Value → Shared → Prop} (hh : A.handled = none) (hl : s.heap.IsList l items) (hit : StrsAre items.toList ns) (hb : ns.length + 1 < scanBound)
    (h : ∀ (h' : Heap) (tk c : Nat), SetT w h' s.heap.objs.size (fun j => decide (j ∈ ns)) c → c ≤ ns.length → (∀ b o, s.heap.get? b = some o → h'.get? b = some o) → Q (.ref s.heap.objs.size) { s with heap := h', toks := tk }) :
    wpAny (model P w) A (call (.type "set") [.ref l]) Q E s := by
  have hisz : items.size = ns.length := by
    have q := StrsAre.length hit
    rw [Array.length_toList] at q
    exact q
  obtain ⟨c, tl, hmro⟩ := F.called_set.mro
  have hmade := F.called_set.made
  have hsub := F.called_set.sub
  refine wpAny_call (codeAny_of_tree ?_)
  show wpAny _ _ (callAny (.type "set") _) _ _ _
  refine wpAny_pure ⟨Code.quiet_builtin _ (by decide +kernel), codeAny_builtin F.entry_type_call ?_⟩
  rw [Around.under_plain (weight_type_call_type "set" [.ref l] []) rfl]
  have h1 := F.called_set.notType
  have h2 := F.called_set.canCreate
  have hct := F.typeCall_set_1 (.ref l)
  repeat (any_goals (first | assumption | wp_step))

  refine codeAny_mono (code_set_ledT (.ref l) (E := E) (Q₁ := fun obj s₁ => obj = .ref s.heap.objs.size ∧ s₁ = { s with heap := s.heap.push { cls := .type "set", dict := none, data := .set #[] 0 (.fresh 0 0 (!w.params.followText "set-order")) } }) ⟨rfl, rfl⟩) fun r s₁ hr => ?_
  cases r with
  | error e => exact hr
  | ok fl =>
    cases fl with
    | ret obj =>
      obtain ⟨rfl, rfl⟩ := hr
      have hS : (s.heap.push { cls := .type "set", dict := none, data := .set #[] 0 (.fresh 0 0 (!w.params.followText "set-order")) }).get? s.heap.objs.size = some { cls := .type "set", dict := none, data := .set #[] 0 (.fresh 0 0 (!w.params.followText "set-order")) } := Heap.get?_push_size _ rfl
      have hT : Shared.TypeIs { s with heap := s.heap.push { cls := .type "set", dict := none, data := .set #[] 0 (.fresh 0 0 (!w.params.followText "set-order")) } } (.ref s.heap.objs.size) "set" := ⟨_, hS, rfl⟩
      have hli := F.called_set.init.lookup
      have hbi := F.called_set.init.bind (.ref s.heap.objs.size)
      repeat (any_goals (first | assumption | wp_step))

      refine codeAny_mono (codeAny_call_builtin (R := wants (fun r s₂ => r = .none ∧ ∃ h' tk c, s₂ = { s with heap := h', toks := tk } ∧ SetT w h' s.heap.objs.size (fun j => decide (j ∈ ns)) c ∧ c ≤ ns.length ∧
          (∀ b o, s.heap.get? b = some o → h'.get? b = some o)) E) F.called_set.init.plain F.entry_set_init (check_set_init_1 hT ?_)) fun r₂ s₂ hr₂ => ?_
      · obtain ⟨ol, hol, hcl, nl, hdl⟩ := hl
        obtain ⟨ocls, odict, odata, oslots⟩ := ol
        simp only at hcl hdl
        subst hcl; subst hdl
        have hol' : (s.heap.push { cls := .type "set", dict := none, data := .set #[] 0 (.fresh 0 0 (!w.params.followText "set-order")) }).get? l = some { cls := .type "list", dict := odict, data := .seq items nl, slots := oslots } := Heap.get?_push_of_some _ hol
        have hsls := F.sub_list_set
        have hslf := F.sub_list_frozenset
        have hne : (Value.type "list" == Value.type "dict") = false := by decide
        have hl1 : (s.heap.push { cls := .type "set", dict := none, data := .set #[] 0 (.fresh 0 0 (!w.params.followText "set-order")) }).IsList l items := ⟨_, hol', rfl, nl, rfl⟩
        unfold Builtin.«set.__init__» noKeywords Builtin.Frozenset.updateFrom
        generalize hPI : pyIter = PI
        wp_walk
        subst hPI

        refine wpAny_pyIter_list hl1 ?_
        refine wpAny_bind (wpAny_runValue ?_)
        have hlS : l < s.heap.objs.size := Heap.lt_size hol
        have hh3 : A.in1.in1.in1.handled = none := by simp [hh]
        have hz1 : (s.heap.push { cls := .type "set", dict := none, data := .set #[] 0 (.fresh 0 0 (!w.params.followText "set-order")) }).objs.size = s.heap.objs.size + 1 := Heap.size_push ..
        have hneI : l ≠ (s.heap.push { cls := .type "set", dict := none, data := .set #[] 0 (.fresh 0 0 (!w.params.followText "set-order")) }).objs.size := by
          rw [Heap.size_push]; exact Nat.ne_of_lt (Nat.lt_succ_of_lt hlS)
        have hSf : s.heap.objs.size ∉ [(s.heap.push { cls := .type "set", dict := none, data := .set #[] 0 (.fresh 0 0 (!w.params.followText "set-order")) }).objs.size, l] := by
          rw [Heap.size_push]; simp only [List.mem_cons, List.mem_singleton, List.not_mem_nil, or_false, not_or]
          exact ⟨Nat.ne_of_lt (Nat.lt_succ_self _), Nat.ne_of_gt hlS⟩
        have hval : ∀ (i : Nat) (v : Value), items[i]? = some v → ∃ k t, ns[i]? = some k ∧ v = .str k t := fun i v hv => by
          obtain ⟨y, t, h1, h2⟩ := PyProof.Rows.StrsAre.item hit i v (by rw [Array.getElem?_toList]; exact hv)
          exact ⟨y, t, h2, h1⟩
        refine set_update_strs ((Walks.list hh3 _ l hneI items).toS) s.heap.objs.size
          hSf ns hisz hb hval (items.size - 0) 0 _ (by omega) (Nat.zero_le _)
          ⟨⟨_, Heap.get?_push_size _ rfl, rfl, rfl⟩, (hl1.push _)⟩ ?hS0 ?hR
        case hS0 =>
          have hget : ((s.heap.push { cls := .type "set", dict := none, data := .set #[] 0 (.fresh 0 0 (!w.params.followText "set-order")) }).push { cls := .type "list_iterator", data := .fields #[.ref l, .int 0 0] }).get? s.heap.objs.size
              = some { cls := .type "set", dict := none, data := .set #[] 0 (.fresh 0 0 (!w.params.followText "set-order")) } := Heap.get?_push_of_some _ hS
          exact ⟨0, Nat.le_refl 0, setT_new_at hget⟩
        case hR =>
          intro s' c' hm hc' hS'
          obtain ⟨h', g2, d', tk', os'⟩ := s'
          have eg : g2 = s.gens := hm.gens
          have ed : d' = s.drawn := hm.drawn
          have eo : os' = s.os := hm.os
          subst eg; subst ed; subst eo
          show wpAny _ _ _ _ _ _
          refine wpAny_pure ?_
          show wpAny _ _ (ret Value.none) _ _ _
          rw [hisz] at hc'
          refine wpAny_pure ⟨rfl, h', tk', c', rfl, hS', hc', fun b o e => ?_⟩
          have hb0 : b < s.heap.objs.size := Heap.lt_size e
          have hb1 : b ≠ s.heap.objs.size := Nat.ne_of_lt hb0
          have hb2 : b ≠ (s.heap.push { cls := .type "set", dict := none, data := .set #[] 0 (.fresh 0 0 (!w.params.followText "set-order")) }).objs.size := by
            rw [Heap.size_push]; exact Nat.ne_of_lt (Nat.lt_succ_of_lt hb0)
          exact hm.heap b o (by simp only [List.mem_cons, List.mem_singleton, List.not_mem_nil, or_false, not_or]; exact ⟨hb1, hb2⟩) (Heap.get?_push_of_some _ (Heap.get?_push_of_some _ e))

      · cases r₂ with
        | error e => exact hr₂
        | ok fl₂ =>
          cases fl₂ with
          | ret r =>
            obtain ⟨rfl, h', tk, c', rfl, hS', hc', hk'⟩ := hr₂
            repeat (any_goals (first | assumption | wp_step))
            exact h _ _ _ hS' hc' hk'
          | _ => exact hr₂.elim
    | _ => exact hr.elim

end

section
variable {P : Program} {w : World} {A : Around} {E : Value → Shared → Prop} {s : Shared} {a : Addr}
theorem sorted_setT2 {S : Str → Bool} {n : Nat} {Q : Value → Shared → Prop} (R : SetT w s.heap a S n) (hh : A.handled = none) (h64 : n < 2001)
    (hQ : ∀ s' p (out : Array Value) (c : Nat) (ns : List Str), (∀ b o, s.heap.get? b = some o → s'.heap.get? b = some o) → s'.gens = s.gens → s'.os = s.os → s.heap.objs.size ≤ p →
      s'.heap.get? p = some (seqObj "list" out c) → StrsAre out.toList ns → sortedS ns = true → ns.Nodup → (∀ k, k ∈ ns ↔ S k = true) → Q (.ref p) s') :
    wpAny (model P w) A (call (.builtin "sorted") [.ref a]) Q E s := by
  obtain ⟨o, es, ep, t, ho, hex, hd, g, nd, hm, hb, hf, hn, hr, hl⟩ := R
  refine Calls.call_function_entry kind_sorted plain_sorted entry_sorted (args_sorted1 _) ?_
  unfold Builtin.«sorted»
  refine wpAny_bind (m := checkCount "sorted" 1 1 _) (wpAny_pure ?_)
  refine wpAny_bind (collect_set (A := A.in1) hh ⟨o, ho, hex.1, hd⟩ hf hb hr hl fun s1 vs k1 hz g1 o1 pm => ?_)
  have hvl : vs.length = n := by rw [pm.length_eq, List.length_map, Array.length_toList]; exact hn
  have hI : StrsAre vs (vs.map PyProof.Rows.strOf) := PyProof.Rows.strsAre_map vs fun v hv => by
    obtain ⟨e, he, q⟩ := List.mem_map.mp (pm.mem_iff.mp hv)
    obtain ⟨k, tk, h1, _⟩ := g e he
    exact ⟨k, tk, by rw [← q]; exact h1⟩
  have pk : (vs.map PyProof.Rows.strOf).Perm (es.toList.map keyT) := by
    have q := pm.map PyProof.Rows.strOf
    rw [List.map_map] at q
    exact q
  refine wpAny_bind (wpAny_newList ?_ (by rw [hvl, sizeLine_eq]; omega))
  have hoL : (s1.heap.push (seqObj "list" vs.toArray 0)).get? s1.heap.objs.size = some (seqObj "list" vs.toArray 0) := Heap.get?_push_size _ rfl
  refine wpAny_bind (wpAny_holding (wpAny_call_entry slot_list_sort ⟨_, hoL, rfl⟩ entry_list_sort (list_sort_treeKAny strKind_oneLt hoL hI.keysOf (fun v₁ v₂ rest e => keyKind_strs (by rw [← e]; exact hI)) (by rw [hvl, sizeLine_eq]; omega) fun st' a1 a2 => ⟨_, rfl, ?_⟩) (args_list_sort _)))
  obtain ⟨ss', b1, b2, b3⟩ := sorted_out_str hI a1 a2
  obtain ⟨c, hc⟩ := sortedHeap_at (vs := vs) (out := (arrOf st').map (·.2)) hoL
  have pn : ss'.Perm (es.toList.map keyT) := b2.trans pk
  refine wpAny_pure ⟨_, rfl, hQ _ s1.heap.objs.size _ c ss' (fun b u e => ?_) g1 o1 hz hc b1 b3 (pn.nodup_iff.mpr nd) (fun k => by rw [pn.mem_iff, ← hm k])⟩
  have q := k1 b u e
  have hlt := Heap.lt_size q
  show (sortedHeap (s1.heap.push (seqObj "list" vs.toArray 0)) s1.heap.objs.size vs ((arrOf st').map (·.2))).get? b = some u
  rw [sortedHeap_old (Nat.ne_of_lt hlt) (by rw [size_push']; exact Nat.lt_succ_of_lt hlt)]
  exact Heap.get?_push_of_some _ q
end
end ZT


/-! Z2: how values, stores and heaps go together. -/
namespace Z
open PySem L2

/-- where the store's objects lie; what is being made and not told yet -/
structure Pl where
  l : List Addr
  hid : List Addr
def Pl.add (ρ : Pl) (p : Addr) : Pl := ⟨ρ.l ++ [p], ρ.hid⟩
/-- objects that a table of code objects is told by -/
def Cod (o : HO) : Prop := (∃ ps, o = .tbl ps) ∨ ∃ f, o = .ext f
def NoT (o : HO) : Prop := ∀ ps, o ≠ .tbl ps
theorem cod_lst {vs : List V} : ¬ Cod (.lst vs) := by rintro (⟨_, h⟩ | ⟨_, h⟩) <;> cases h
theorem cod_dK {vs : List (Key × V)} : ¬ Cod (.dK vs) := by rintro (⟨_, h⟩ | ⟨_, h⟩) <;> cases h
theorem not_lst {vs : List V} : NoT (.lst vs) := fun _ h => by cases h
theorem not_tup {vs : List V} : NoT (.tup vs) := fun _ h => by cases h
theorem not_frz {o : Obj} {u : HO} : NoT (.frz o u) := fun _ h => by cases h
theorem not_xd {fs : List (Str × V)} : NoT (.xd fs) := fun _ h => by cases h
/-- the defs' code objects, their tables, the names of the lambdas in them -/
def tabOf (K : PySem.W.Frag) (c : Addr) : Option Addr := match K.lookup c with
  | some (o : Obj) => (match o.data with
    | .fields (vs : Array Value) => (match (vs[11]? : Option Value) with
      | some (.ref P) => some P
      | _ => none)
    | _ => none)
  | none => none
def csK (K : PySem.W.Frag) : List (Addr × Addr × Str) := K.filterMap fun p => match p.2.data with
  | .func fd => (match fd.code with
    | .ref c => (tabOf K c).map fun P => (c, P, (fd.qualname ++ (".<locals>." : Str)) ++ ("<lambda>" : Str))
    | _ => none)
  | _ => none
def tbK (K : PySem.W.Frag) : List (Addr × Str) := (csK K).map (·.2)
/-- the tables where code objects of lambdas lie -/
def TbOk (K : PySem.W.Frag) (ρ : Pl) (H : Hp) : Prop := ∀ p ∈ tbK K, p.1 ∉ ρ.l ∧ p.1 ∉ ρ.hid ∧ LamX.TabS H p.1 p.2
theorem tabS_same {H H' : Hp} {P : Addr} {q : Str} (h : ∀ b o, H b = some o → Cod o → H' b = some o) (t : LamX.TabS H P q) : LamX.TabS H' P q := by
  obtain ⟨ps, h1, h2, h3⟩ := t
  refine ⟨ps, h _ _ h1 (.inl ⟨_, rfl⟩), h2, fun pos cv hc => ?_⟩
  obtain ⟨c, e1, e2⟩ := h3 pos cv hc
  exact ⟨c, e1, h _ _ e2 (.inr ⟨_, rfl⟩)⟩
theorem TbOk.same {K : PySem.W.Frag} {ρ ρ' : Pl} {H H' : Hp} (t : TbOk K ρ H) (h1 : ∀ p ∈ tbK K, p.1 ∉ ρ.l → p.1 ∉ ρ'.l) (h2 : ∀ p ∈ tbK K, p.1 ∉ ρ.hid → p.1 ∉ ρ'.hid) (h : ∀ b o, H b = some o → Cod o → H' b = some o) : TbOk K ρ' H' := fun p hp => by
  obtain ⟨a, b, c⟩ := t p hp
  exact ⟨h1 p hp a, h2 p hp b, tabS_same h c⟩
theorem TbOk.at {K : PySem.W.Frag} {ρ : Pl} {H : Hp} (t : TbOk K ρ H) {p : Addr × Str} (hp : p ∈ tbK K) : ∃ ps, H p.1 = some (.tbl ps) := by
  obtain ⟨_, _, ps, h, _⟩ := t p hp
  exact ⟨ps, h⟩
/-- the places of what may change -/
def Al (ρ : Pl) (M : Sto) (b : Addr) : Prop := b ∈ ρ.hid ∨ ∃ (i : Nat) (o : MO), ρ.l[i]? = some b ∧ M[i]? = some o ∧ o ≠ .dead
/-- a tuple made here: a plain object -/
def TupF (H : Hp) (a : Addr) (vs : List V) : Prop := ∃ o : Obj, H a = some (.frz o (.tup vs)) ∧ o.dict = none
mutual
inductive RD (K : PySem.W.Frag) (H : Hp) (al : Addr → Prop) (ρ : Pl) : D → V → Prop
  | non : RD K H al ρ .non .non
  | bl (b : Bool) : RD K H al ρ (.bl b) (.bl b)
  | int (i : Int) : RD K H al ρ (.int i) (.int i)
  | str (s : Str) : RD K H al ρ (.str s) (.str s)
  | tup {a : Addr} {xs : List D} {vs : List V} : TupF H a vs → ¬ al a → vs.length ≤ sizeLine → RDs K H al ρ xs vs → RD K H al ρ (.tup xs) (.ref a)
  | tupK {a : Addr} {xs : List D} {vs : List V} {o : Obj} {its : Array Value} {n : Nat} : K.lookup a = some o → o.cls = .type "tuple" ∧ o.dict = none → o.data = .seq its n → its.size ≤ sizeLine → Vals vs its.toList → vs.length ≤ sizeLine →
      RDs K H al ρ xs vs → RD K H al ρ (.tup xs) (.ref a)
  | lst {a : Addr} {xs : List D} {vs : List V} : H a = some (.lst vs) → ¬ al a → vs.length ≤ sizeLine → RDs K H al ρ xs vs → RD K H al ρ (.lst xs) (.ref a)
  | scr {a : Addr} {xs : List D} {vs : List V} : Rd H a (.lst vs) → ¬ al a → vs.length ≤ sizeLine → RDs K H al ρ xs vs → RD K H al ρ (.scr xs) (.ref a)
  | scrK {a : Addr} {xs : List D} {vs : List V} : (∃ (o : Obj) (its : Array Value) (n : Nat), K.lookup a = some o ∧ o.cls = .type "list" ∧ o.dict = none ∧ o.data = .seq its n ∧ its.size ≤ sizeLine ∧ Vals vs its.toList) → vs.length ≤ sizeLine →
      RDs K H al ρ xs vs → RD K H al ρ (.scr xs) (.ref a)
  | loc {n : Nat} {a : Addr} : ρ.l[n]? = some a → RD K H al ρ (.loc n) (.ref a)
  | pr {a : Addr} {xs : List D} {vs : List V} : H a = some (.tup vs) → ¬ al a → vs.length ≤ sizeLine → RDs K H al ρ xs vs → RD K H al ρ (.pr xs) (.ref a)
inductive RDs (K : PySem.W.Frag) (H : Hp) (al : Addr → Prop) (ρ : Pl) : List D → List V → Prop
  | nil : RDs K H al ρ [] []
  | cons {x : D} {xs : List D} {v : V} {vs : List V} : RD K H al ρ x v → RDs K H al ρ xs vs → RDs K H al ρ (x :: xs) (v :: vs)
end
/-- pairs of keys and values -/
inductive RKs (K : PySem.W.Frag) (H : Hp) (al : Addr → Prop) (ρ : Pl) : List (Key × D) → List (Key × V) → Prop
  | nil : RKs K H al ρ [] []
  | cons {k : Key} {x : D} {xs : List (Key × D)} {v : V} {vs : List (Key × V)} : RD K H al ρ x v → RKs K H al ρ xs vs → RKs K H al ρ ((k, x) :: xs) ((k, v) :: vs)
inductive RO (K : PySem.W.Frag) (H : Hp) (al : Addr → Prop) (ρ : Pl) (a : Addr) : MO → Prop
  | dead {o : HO} : H a = some o → NoT o → RO K H al ρ a .dead
  | lst {xs : List D} {vs : List V} : H a = some (.lst vs) → vs.length ≤ sizeLine → RDs K H al ρ xs vs → RO K H al ρ a (.lst xs)
  | dct {xs : List (Key × D)} {vs : List (Key × V)} : H a = some (.dK vs) → vs.length ≤ sizeLine → RKs K H al ρ xs vs → RO K H al ρ a (.dct xs)
structure Rep (K : PySem.W.Frag) (ρ : Pl) (M : Sto) (H : Hp) : Prop where
  len : ρ.l.length = M.length
  nd : ρ.l.Nodup
  obj : ∀ (i : Nat) (a : Addr) (o : MO), ρ.l[i]? = some a → M[i]? = some o → RO K H (Al ρ M) ρ a o
  hid : ∀ b ∈ ρ.hid, b ∉ ρ.l ∧ ∃ o, H b = some (.lst o)
  tab : TbOk K ρ H
structure Ext (ρ : Pl) (M : Sto) (H : Hp) (ρ' : Pl) (M' : Sto) (H' : Hp) : Prop where
  pre : ∃ t, ρ'.l = ρ.l ++ t
  hid : ρ'.hid = ρ.hid
  hk : ∀ b ∈ ρ.hid, H' b = H b
  keep : ∀ b o, H b = some o → NoT o → ¬ Al ρ M b → H' b = some o ∧ ¬ Al ρ' M' b
section
variable {K : PySem.W.Frag} {H H' H1 H2 : Hp} {al al' : Addr → Prop} {ρ ρ' ρ1 ρ2 : Pl} {M M' M1 M2 : Sto} {a b p : Addr}
theorem Ext.refl : Ext ρ M H ρ M H := ⟨⟨[], by simp⟩, rfl, fun _ _ => rfl, fun b o h _ n => ⟨h, n⟩⟩
theorem Ext.trans (x : Ext ρ M H ρ1 M1 H1) (y : Ext ρ1 M1 H1 ρ2 M2 H2) : Ext ρ M H ρ2 M2 H2 := by
  obtain ⟨t, ht⟩ := x.pre
  obtain ⟨u, hu⟩ := y.pre
  exact ⟨⟨t ++ u, by rw [hu, ht, List.append_assoc]⟩, y.hid.trans x.hid, fun b hb => (y.hk b (by rw [x.hid]; exact hb)).trans (x.hk b hb), fun b o h t n => let ⟨h1, n1⟩ := x.keep b o h t n; y.keep b o h1 t n1⟩
theorem Ext.at (x : Ext ρ M H ρ' M' H') {i : Nat} (h : ρ.l[i]? = some a) : ρ'.l[i]? = some a := by
  obtain ⟨t, ht⟩ := x.pre
  obtain ⟨h1, h2⟩ := List.getElem?_eq_some_iff.mp h
  rw [ht, List.getElem?_append_left h1]; exact h
/-- what values see of a step -/
structure Wk (ρ : Pl) (M : Sto) (H : Hp) (ρ' : Pl) (M' : Sto) (H' : Hp) : Prop where
  lo : ∀ (i : Nat) (a : Addr), ρ.l[i]? = some a → ρ'.l[i]? = some a
  keep : ∀ b o, H b = some o → NoT o → ¬ Al ρ M b → H' b = some o ∧ ¬ Al ρ' M' b
theorem Ext.wk (x : Ext ρ M H ρ' M' H') : Wk ρ M H ρ' M' H' := ⟨fun i a h => x.at h, x.keep⟩
theorem Wk.trans (x : Wk ρ M H ρ1 M1 H1) (y : Wk ρ1 M1 H1 ρ2 M2 H2) : Wk ρ M H ρ2 M2 H2 := ⟨fun i a h => y.lo i a (x.lo i a h), fun b o h t n => let ⟨h1, n1⟩ := x.keep b o h t n; y.keep b o h1 t n1⟩
theorem Wk.rd (x : Wk ρ M H ρ' M' H') {u : List V} (h : Rd H a (.lst u)) (n : ¬ Al ρ M a) : Rd H' a (.lst u) ∧ ¬ Al ρ' M' a := by
  rcases h with h | ⟨o, h⟩
  · obtain ⟨h1, n1⟩ := x.keep a _ h not_lst n; exact ⟨.inl h1, n1⟩
  · obtain ⟨h1, n1⟩ := x.keep a _ h not_frz n; exact ⟨.inr ⟨o, h1⟩, n1⟩
theorem Wk.tupF (x : Wk ρ M H ρ' M' H') {vs : List V} (h : TupF H a vs) (n : ¬ Al ρ M a) : TupF H' a vs ∧ ¬ Al ρ' M' a := by
  obtain ⟨o, h1, h2⟩ := h
  exact ⟨⟨o, (x.keep _ _ h1 not_frz n).1, h2⟩, (x.keep _ _ h1 not_frz n).2⟩
mutual
theorem RD.wk (x : Wk ρ M H ρ' M' H') : ∀ {d : D} {v : V}, RD K H (Al ρ M) ρ d v → RD K H' (Al ρ' M') ρ' d v
  | _, _, .non => .non
  | _, _, .bl b => .bl b
  | _, _, .int i => .int i
  | _, _, .str s => .str s
  | _, _, .tup h n z r => .tup (x.tupF h n).1 (x.tupF h n).2 z (RDs.wk x r)
  | _, _, .pr h n z r => .pr (x.keep _ _ h not_tup n).1 (x.keep _ _ h not_tup n).2 z (RDs.wk x r)
  | _, _, .tupK h1 h2 h3 h4 h5 z r => .tupK h1 h2 h3 h4 h5 z (RDs.wk x r)
  | _, _, .lst h n z r => .lst (x.keep _ _ h not_lst n).1 (x.keep _ _ h not_lst n).2 z (RDs.wk x r)
  | _, _, .scr h n z r => .scr (x.rd h n).1 (x.rd h n).2 z (RDs.wk x r)
  | _, _, .scrK h z r => .scrK h z (RDs.wk x r)
  | _, _, .loc h => .loc (x.lo _ _ h)
theorem RDs.wk (x : Wk ρ M H ρ' M' H') : ∀ {ds : List D} {vs : List V}, RDs K H (Al ρ M) ρ ds vs → RDs K H' (Al ρ' M') ρ' ds vs
  | _, _, .nil => .nil
  | _, _, .cons h r => .cons (RD.wk x h) (RDs.wk x r)
end
theorem RKs.wk (x : Wk ρ M H ρ' M' H') : ∀ {ds : List (Key × D)} {vs : List (Key × V)}, RKs K H (Al ρ M) ρ ds vs → RKs K H' (Al ρ' M') ρ' ds vs
  | _, _, .nil => .nil
  | _, _, .cons h r => .cons (h.wk x) (RKs.wk x r)
theorem RD.ext {d : D} {v : V} (x : Ext ρ M H ρ' M' H') (h : RD K H (Al ρ M) ρ d v) : RD K H' (Al ρ' M') ρ' d v := h.wk x.wk
theorem RDs.ext {d : List D} {v : List V} (x : Ext ρ M H ρ' M' H') (h : RDs K H (Al ρ M) ρ d v) : RDs K H' (Al ρ' M') ρ' d v := h.wk x.wk
theorem RKs.ext {d : List (Key × D)} {v : List (Key × V)} (x : Ext ρ M H ρ' M' H') (h : RKs K H (Al ρ M) ρ d v) : RKs K H' (Al ρ' M') ρ' d v := h.wk x.wk
theorem RDs.length : ∀ {ds : List D} {vs : List V}, RDs K H al ρ ds vs → ds.length = vs.length
  | _, _, .nil => rfl
  | _, _, .cons _ r => by rw [List.length_cons, List.length_cons, RDs.length r]
theorem RKs.length : ∀ {ds : List (Key × D)} {vs : List (Key × V)}, RKs K H al ρ ds vs → ds.length = vs.length
  | _, _, .nil => rfl
  | _, _, .cons _ r => by rw [List.length_cons, List.length_cons, RKs.length r]
theorem RDs.get : ∀ {ds : List D} {vs : List V} {i : Nat} {d : D}, RDs K H al ρ ds vs → ds[i]? = some d → ∃ v, vs[i]? = some v ∧ RD K H al ρ d v
  | _, _, _, _, .nil, e => by simp at e
  | _, _, 0, _, .cons h _, e => by simp at e; subst e; exact ⟨_, rfl, h⟩
  | _, _, i + 1, _, .cons _ r, e => by
    obtain ⟨v, h1, h2⟩ := RDs.get (i := i) r (by simpa using e)
    exact ⟨v, by simpa using h1, h2⟩
theorem RDs.eraseIdx : ∀ {ds : List D} {vs : List V} (i : Nat), RDs K H al ρ ds vs → RDs K H al ρ (ds.eraseIdx i) (vs.eraseIdx i)
  | _, _, _, .nil => .nil
  | _, _, 0, .cons _ r => r
  | _, _, i + 1, .cons h r => .cons h (RDs.eraseIdx i r)
theorem RDs.getV : ∀ {ds : List D} {vs : List V} {i : Nat} {v : V}, RDs K H al ρ ds vs → vs[i]? = some v → ∃ d, ds[i]? = some d ∧ RD K H al ρ d v
  | _, _, _, _, .nil, e => by simp at e
  | _, _, 0, _, .cons h _, e => by simp at e; subst e; exact ⟨_, rfl, h⟩
  | _, _, i + 1, _, .cons _ r, e => by
    obtain ⟨v, h1, h2⟩ := RDs.getV (i := i) r (by simpa using e)
    exact ⟨v, by simpa using h1, h2⟩
theorem RDs.append : ∀ {ds es : List D} {vs ws : List V}, RDs K H al ρ ds vs → RDs K H al ρ es ws → RDs K H al ρ (ds ++ es) (vs ++ ws)
  | _, _, _, _, .nil, s => s
  | _, _, _, _, .cons h r, s => .cons h (RDs.append r s)
theorem RDs.take : ∀ {ds : List D} {vs : List V} (n : Nat), RDs K H al ρ ds vs → RDs K H al ρ (ds.take n) (vs.take n)
  | _, _, 0, _ => by simp; exact .nil
  | _, _, _ + 1, .nil => .nil
  | _, _, n + 1, .cons h r => .cons h (RDs.take n r)
theorem RDs.drop : ∀ {ds : List D} {vs : List V} (n : Nat), RDs K H al ρ ds vs → RDs K H al ρ (ds.drop n) (vs.drop n)
  | _, _, 0, r => r
  | _, _, _ + 1, .nil => .nil
  | _, _, n + 1, .cons _ r => RDs.drop n r
theorem RDs.dropLast {ds : List D} {vs : List V} (r : RDs K H al ρ ds vs) : RDs K H al ρ ds.dropLast vs.dropLast := by
  rw [List.dropLast_eq_take, List.dropLast_eq_take, r.length]
  exact r.take _
theorem RDs.set : ∀ {ds : List D} {vs : List V} (i : Nat) {d : D} {v : V}, RDs K H al ρ ds vs → RD K H al ρ d v → RDs K H al ρ (ds.set i d) (vs.set i v)
  | _, _, _, _, _, .nil, _ => .nil
  | _, _, 0, _, _, .cons _ r, q => .cons q r
  | _, _, i + 1, _, _, .cons h r, q => .cons h (RDs.set i r q)
theorem RDs.rep {ds : List D} {vs : List V} (r : RDs K H al ρ ds vs) : ∀ k : Nat, RDs K H al ρ (List.replicate k ds).flatten (List.replicate k vs).flatten
  | 0 => .nil
  | k + 1 => by
    rw [List.replicate_succ, List.replicate_succ, List.flatten_cons, List.flatten_cons]
    exact r.append (RDs.rep r k)
theorem RDs.reverse : ∀ {ds : List D} {vs : List V}, RDs K H al ρ ds vs → RDs K H al ρ ds.reverse vs.reverse
  | _, _, .nil => .nil
  | _, _, .cons h r => by
    rw [List.reverse_cons, List.reverse_cons]
    exact (RDs.reverse r).append (.cons h .nil)
/-- what a number, a text, .. stands for -/
theorem RD.int_inv {i : Int} {v : V} (h : RD K H al ρ (.int i) v) : v = .int i := by cases h; rfl
theorem RD.bl_inv {i : Bool} {v : V} (h : RD K H al ρ (.bl i) v) : v = .bl i := by cases h; rfl
theorem RD.str_inv {i : Str} {v : V} (h : RD K H al ρ (.str i) v) : v = .str i := by cases h; rfl
theorem RD.non_inv {v : V} (h : RD K H al ρ .non v) : v = .non := by cases h; rfl
theorem RD.tup_inv {xs : List D} {v : V} (h : RD K H al ρ (.tup xs) v) : ∃ a vs, v = .ref a ∧ SqT K H a vs ∧ vs.length ≤ sizeLine ∧ RDs K H al ρ xs vs := by
  cases h with
  | tup h n z r =>
    obtain ⟨o, h, _⟩ := h
    exact ⟨_, _, rfl, .inl (.inr ⟨o, h⟩), z, r⟩
  | tupK h1 h2 h3 h4 h5 z r => exact ⟨_, _, rfl, .inr ⟨_, _, _, h1, h2.1, h3, h4, h5⟩, z, r⟩
/-- .. a plain object -/
def PlT (K : PySem.W.Frag) (H : Hp) (a : Addr) (vs : List V) : Prop := TupF H a vs ∨ ∃ (o : Obj) (its : Array Value) (n : Nat), K.lookup a = some o ∧ o.cls = .type "tuple" ∧ o.dict = none ∧ o.data = .seq its n ∧ its.size ≤ sizeLine ∧ Vals vs its.toList
theorem PlT.sq {vs : List V} (h : PlT K H a vs) : SqT K H a vs := by
  rcases h with ⟨o, h1, _⟩ | ⟨o, its, n, h1, h2, _, h3⟩
  · exact .inl (.inr ⟨o, h1⟩)
  · exact .inr ⟨o, its, n, h1, h2, h3⟩
theorem RD.tup_pl {xs : List D} {v : V} (h : RD K H al ρ (.tup xs) v) : ∃ a vs, v = .ref a ∧ PlT K H a vs ∧ vs.length ≤ sizeLine ∧ RDs K H al ρ xs vs := by
  cases h with
  | tup h n z r => exact ⟨_, _, rfl, .inl h, z, r⟩
  | tupK h1 h2 h3 h4 h5 z r => exact ⟨_, _, rfl, .inr ⟨_, _, _, h1, h2.1, h2.2, h3, h4, h5⟩, z, r⟩
theorem RD.pr_inv {xs : List D} {v : V} (h : RD K H al ρ (.pr xs) v) : ∃ a vs, v = .ref a ∧ SqT K H a vs ∧ vs.length ≤ sizeLine ∧ RDs K H al ρ xs vs := by
  cases h with
  | pr h n z r => exact ⟨_, _, rfl, .inl (.inl h), z, r⟩
theorem RD.lst_inv {xs : List D} {v : V} (h : RD K H al ρ (.lst xs) v) : ∃ a vs, v = .ref a ∧ H a = some (.lst vs) ∧ ¬ al a ∧ vs.length ≤ sizeLine ∧ RDs K H al ρ xs vs := by
  cases h with
  | lst h n z r => exact ⟨_, _, rfl, h, n, z, r⟩
theorem RD.scr_inv {xs : List D} {v : V} (h : RD K H al ρ (.scr xs) v) : ∃ a vs, v = .ref a ∧ SqL K H a vs ∧ vs.length ≤ sizeLine ∧ RDs K H al ρ xs vs := by
  cases h with
  | scr h n z r => exact ⟨_, _, rfl, .inl h, z, r⟩
  | scrK h z r => exact ⟨_, _, rfl, .inr h, z, r⟩
theorem RD.loc_inv {n : Nat} {v : V} (h : RD K H al ρ (.loc n) v) : ∃ a, v = .ref a ∧ ρ.l[n]? = some a := by
  cases h with
  | loc h => exact ⟨_, rfl, h⟩
/-- of a represented state -/
theorem RO.there {o : MO} (h : RO K H al ρ a o) : ∃ u, H a = some u := by
  cases h with
  | dead h _ => exact ⟨_, h⟩
  | lst h _ _ => exact ⟨_, h⟩
  | dct h _ _ => exact ⟨_, h⟩
theorem Rep.there (r : Rep K ρ M H) {i : Nat} (h : ρ.l[i]? = some a) : ∃ u, H a = some u := by
  obtain ⟨h1, _⟩ := List.getElem?_eq_some_iff.mp h
  have h2 : i < M.length := by rw [← r.len]; exact h1
  exact (r.obj i a M[i] h (List.getElem?_eq_getElem h2)).there
theorem Rep.off (r : Rep K ρ M H) (h : H p = none) : p ∉ ρ.l := fun hm => by
  obtain ⟨i, hi⟩ := List.getElem?_of_mem hm
  obtain ⟨u, hu⟩ := r.there hi
  rw [h] at hu; cases hu
theorem Rep.noal (r : Rep K ρ M H) (h : H p = none) : ¬ Al ρ M p := by
  rintro (h1 | ⟨i, o, h1, _⟩)
  · obtain ⟨_, o, h2⟩ := r.hid p h1
    rw [h] at h2; cases h2
  · exact r.off h (List.mem_of_getElem? h1)
theorem Rep.lst_at (r : Rep K ρ M H) {n : Nat} {xs : List D} (h : M[n]? = some (.lst xs)) (h2 : ρ.l[n]? = some a) : ∃ vs, H a = some (.lst vs) ∧ vs.length ≤ sizeLine ∧ RDs K H (Al ρ M) ρ xs vs := by
  cases r.obj n a _ h2 h with
  | lst h1 z h3 => exact ⟨_, h1, z, h3⟩
theorem Rep.dct_at (r : Rep K ρ M H) {n : Nat} {xs : List (Key × D)} (h : M[n]? = some (.dct xs)) (h2 : ρ.l[n]? = some a) : ∃ vs, H a = some (.dK vs) ∧ vs.length ≤ sizeLine ∧ RKs K H (Al ρ M) ρ xs vs := by
  cases r.obj n a _ h2 h with
  | dct h1 z h3 => exact ⟨_, h1, z, h3⟩
theorem RO.wk (x : Wk ρ M H ρ' M' H') {o : MO} (h : RO K H (Al ρ M) ρ a o) (k : H' a = H a) : RO K H' (Al ρ' M') ρ' a o := by
  cases h with
  | dead h n => exact .dead (k.trans h) n
  | lst h z r => exact .lst (k.trans h) z (r.wk x)
  | dct h z r => exact .dct (k.trans h) z (r.wk x)
theorem RO.ext (x : Ext ρ M H ρ' M' H') {o : MO} (h : RO K H (Al ρ M) ρ a o) (k : H' a = H a) : RO K H' (Al ρ' M') ρ' a o := h.wk x.wk k
/-- a new object that is a value -/
theorem Rep.val (r : Rep K ρ M H) {o : HO} (h : H p = none) : Rep K ρ M (upd H p o) ∧ Ext ρ M H ρ M (upd H p o) := by
  have hq : ∀ b ∈ ρ.hid, upd H p o b = H b := fun b hb => by
    obtain ⟨_, w, hw⟩ := r.hid b hb
    exact upd_ne (ne_of_none hw h)
  have x : Ext ρ M H ρ M (upd H p o) := ⟨⟨[], by simp⟩, rfl, hq, fun b u hb _ n => ⟨by rw [upd_ne (ne_of_none hb h)]; exact hb, n⟩⟩
  refine ⟨⟨r.len, r.nd, fun i a u h1 h2 => ?_, fun b hb => ⟨(r.hid b hb).1, by rw [hq b hb]; exact (r.hid b hb).2⟩, r.tab.same (fun _ _ h => h) (fun _ _ h => h) fun b u hb _ => by rw [upd_ne (ne_of_none hb h)]; exact hb⟩, x⟩
  obtain ⟨w, hw⟩ := r.there h1
  exact (r.obj i a u h1 h2).ext x (upd_ne (ne_of_none hw h))
/-- a new object that may change -/
theorem Al.push {u : MO} (hl : ρ.l.length = M.length) : Al (ρ.add p) (M ++ [u]) b ↔ (Al ρ M b ∨ (b = p ∧ u ≠ .dead)) := by
  constructor
  · rintro (h | ⟨i, o, h1, h2, h3⟩)
    · exact .inl (.inl h)
    have h1 : (ρ.l ++ [p])[i]? = some b := h1
    by_cases hi : i < ρ.l.length
    · rw [List.getElem?_append_left hi] at h1
      rw [List.getElem?_append_left (by omega)] at h2
      exact .inl (.inr ⟨i, o, h1, h2, h3⟩)
    · rw [List.getElem?_append_right (by omega)] at h1
      rw [List.getElem?_append_right (by omega)] at h2
      have hz : i - ρ.l.length = 0 := by
        obtain ⟨q, _⟩ := List.getElem?_eq_some_iff.mp h1
        simp at q; omega
      rw [hz] at h1
      rw [show i - M.length = 0 by omega] at h2
      simp at h1 h2
      exact .inr ⟨h1.symm, by rw [h2]; exact h3⟩
  · rintro ((h | ⟨i, o, h1, h2, h3⟩) | ⟨rfl, h3⟩)
    · exact .inl h
    · obtain ⟨q, _⟩ := List.getElem?_eq_some_iff.mp h1
      obtain ⟨q2, _⟩ := List.getElem?_eq_some_iff.mp h2
      exact .inr ⟨i, o, by show (ρ.l ++ [p])[i]? = _; rw [List.getElem?_append_left q]; exact h1, by rw [List.getElem?_append_left q2]; exact h2, h3⟩
    · exact .inr ⟨ρ.l.length, u, by show (ρ.l ++ [b])[ρ.l.length]? = _; simp, by rw [hl]; simp, h3⟩
theorem Rep.ext_new (r : Rep K ρ M H) {o : HO} {u : MO} (h : H p = none) : Ext ρ M H (ρ.add p) (M ++ [u]) (upd H p o) := by
  have hq : ∀ b ∈ ρ.hid, upd H p o b = H b := fun b hb => by
    obtain ⟨_, w, hw⟩ := r.hid b hb
    exact upd_ne (ne_of_none hw h)
  refine ⟨⟨[p], rfl⟩, rfl, hq, fun b w hb _ n => ⟨by rw [upd_ne (ne_of_none hb h)]; exact hb, fun z => ?_⟩⟩
  rcases (Al.push r.len).mp z with z | ⟨z, _⟩
  · exact n z
  · rw [z, h] at hb; cases hb
theorem Rep.new (r : Rep K ρ M H) {o : HO} {u : MO} (h : H p = none) (hu : RO K (upd H p o) (Al (ρ.add p) (M ++ [u])) (ρ.add p) p u) : Rep K (ρ.add p) (M ++ [u]) (upd H p o) := by
  have x : Ext ρ M H (ρ.add p) (M ++ [u]) (upd H p o) := r.ext_new h
  refine ⟨by show (ρ.l ++ [p]).length = _; simp [r.len], ?_, fun i a w h1 h2 => ?_, fun b hb => ⟨fun hm => ?_, by rw [x.hk b hb]; exact (r.hid b hb).2⟩, r.tab.same (fun q hq hn hm => ?_) (fun _ _ h => h) fun b u hb _ => by rw [upd_ne (ne_of_none hb h)]; exact hb⟩
  · show (ρ.l ++ [p]).Nodup
    rw [List.nodup_append]
    refine ⟨r.nd, by simp, fun y hy z hz => ?_⟩
    simp at hz
    subst hz
    exact fun e => r.off h (e ▸ hy)
  · have h1 : (ρ.l ++ [p])[i]? = some a := h1
    by_cases hi : i < ρ.l.length
    · rw [List.getElem?_append_left hi] at h1
      rw [List.getElem?_append_left (by have := r.len; omega)] at h2
      obtain ⟨q, hq⟩ := r.there h1
      exact (r.obj i a w h1 h2).ext x (upd_ne (ne_of_none hq h))
    · rw [List.getElem?_append_right (by omega)] at h1
      rw [List.getElem?_append_right (by have := r.len; omega)] at h2
      have hz : i - ρ.l.length = 0 := by
        obtain ⟨q, _⟩ := List.getElem?_eq_some_iff.mp h1
        simp at q; omega
      rw [hz] at h1
      rw [show i - M.length = 0 by have := r.len; omega] at h2
      simp at h1 h2
      subst h1 h2
      exact hu
  · have hm : b ∈ ρ.l ++ [p] := hm
    rcases List.mem_append.mp hm with hm | hm
    · exact (r.hid b hb).1 hm
    · simp at hm
      subst hm
      obtain ⟨_, o', ho⟩ := r.hid b hb
      rw [h] at ho; cases ho
  · have hm : q.1 ∈ ρ.l ++ [p] := hm
    rcases List.mem_append.mp hm with hm | hm
    · exact hn hm
    · simp at hm
      obtain ⟨ps, e⟩ := r.tab.at hq
      rw [hm, h] at e; cases e
theorem Rep.newL (r : Rep K ρ M H) {xs : List D} {vs : List V} (h : H p = none) (z : vs.length ≤ sizeLine) (q : RDs K H (Al ρ M) ρ xs vs) :
    Rep K (ρ.add p) (M ++ [.lst xs]) (upd H p (.lst vs)) ∧ Ext ρ M H (ρ.add p) (M ++ [.lst xs]) (upd H p (.lst vs)) ∧ (ρ.add p).l[M.length]? = some p := by
  have x : Ext ρ M H (ρ.add p) (M ++ [.lst xs]) (upd H p (.lst vs)) := r.ext_new h
  exact ⟨r.new h (.lst upd_same z (q.ext x)), x, by rw [← r.len]; show (ρ.l ++ [p])[ρ.l.length]? = _; simp⟩
theorem Rep.newD (r : Rep K ρ M H) {xs : List (Key × D)} {vs : List (Key × V)} (h : H p = none) (z : vs.length ≤ sizeLine) (q : RKs K H (Al ρ M) ρ xs vs) :
    Rep K (ρ.add p) (M ++ [.dct xs]) (upd H p (.dK vs)) ∧ Ext ρ M H (ρ.add p) (M ++ [.dct xs]) (upd H p (.dK vs)) ∧ (ρ.add p).l[M.length]? = some p := by
  have x : Ext ρ M H (ρ.add p) (M ++ [.dct xs]) (upd H p (.dK vs)) := r.ext_new h
  exact ⟨r.new h (.dct upd_same z (q.ext x)), x, by rw [← r.len]; show (ρ.l ++ [p])[ρ.l.length]? = _; simp⟩
/-- an object is changed -/
theorem Al.set {n : Nat} {o u : MO} (h : M[n]? = some o) (h1 : o ≠ .dead) (h2 : u ≠ .dead) : Al ρ (M.set n u) b ↔ Al ρ M b := by
  obtain ⟨hn, _⟩ := List.getElem?_eq_some_iff.mp h
  constructor
  · rintro (z | ⟨i, w, a1, a2, a3⟩)
    · exact .inl z
    by_cases hi : n = i
    · subst hi; exact .inr ⟨n, o, a1, h, h1⟩
    · rw [List.getElem?_set_ne hi] at a2; exact .inr ⟨i, w, a1, a2, a3⟩
  · rintro (z | ⟨i, w, a1, a2, a3⟩)
    · exact .inl z
    by_cases hi : n = i
    · subst hi; exact .inr ⟨n, u, a1, by simp [hn], h2⟩
    · exact .inr ⟨i, w, a1, by rw [List.getElem?_set_ne hi]; exact a2, a3⟩
theorem Rep.ext_put (r : Rep K ρ M H) {n : Nat} {o u : MO} {w : HO} (h : M[n]? = some o) (h1 : o ≠ .dead) (h2 : u ≠ .dead) (ha : ρ.l[n]? = some a) : Ext ρ M H ρ (M.set n u) (upd H a w) := by
  refine ⟨⟨[], by simp⟩, rfl, fun b hb => upd_ne fun e => ?_, fun b q hb _ nb => ⟨?_, fun z => nb ((Al.set h h1 h2).mp z)⟩⟩
  · subst e
    exact (r.hid b hb).1 (List.mem_of_getElem? ha)
  · rw [upd_ne]
    · exact hb
    · intro e; subst e; exact nb (.inr ⟨n, o, ha, h, h1⟩)
theorem Rep.put (r : Rep K ρ M H) {n : Nat} {o u : MO} {w : HO} (h : M[n]? = some o) (h1 : o ≠ .dead) (h2 : u ≠ .dead) (ha : ρ.l[n]? = some a) (hu : RO K (upd H a w) (Al ρ (M.set n u)) ρ a u) : Rep K ρ (M.set n u) (upd H a w) := by
  have x : Ext ρ M H ρ (M.set n u) (upd H a w) := r.ext_put h h1 h2 ha
  refine ⟨by simp [r.len], r.nd, fun i b q b1 b2 => ?_, fun b hb => ⟨(r.hid b hb).1, by rw [x.hk b hb]; exact (r.hid b hb).2⟩, r.tab.same (fun _ _ h => h) (fun _ _ h => h) fun b v hb hc => ?_⟩
  rotate_left
  · rw [upd_ne]
    · exact hb
    · intro e
      subst e
      have r0 := r.obj n b o ha h
      cases r0 with
      | dead _ _ => exact h1 rfl
      | lst g _ _ => rw [g] at hb; cases hb; exact cod_lst hc
      | dct g _ _ => rw [g] at hb; cases hb; exact cod_dK hc
  by_cases hi : n = i
  · subst hi
    rw [ha] at b1; cases b1
    obtain ⟨hn, _⟩ := List.getElem?_eq_some_iff.mp h
    rw [List.getElem?_set_self hn] at b2; cases b2
    exact hu
  · rw [List.getElem?_set_ne hi] at b2
    refine (r.obj i b q b1 b2).ext x (upd_ne fun e => hi ?_)
    subst e
    obtain ⟨l1, e1⟩ := List.getElem?_eq_some_iff.mp b1
    obtain ⟨l2, e2⟩ := List.getElem?_eq_some_iff.mp ha
    exact (List.getElem_inj r.nd).mp (e2.trans e1.symm)
theorem Rep.putL (r : Rep K ρ M H) {n : Nat} {xs ys : List D} {vs : List V} (h : M[n]? = some (.lst xs)) (ha : ρ.l[n]? = some a) (z : vs.length ≤ sizeLine) (q : RDs K H (Al ρ M) ρ ys vs) :
    Rep K ρ (M.set n (.lst ys)) (upd H a (.lst vs)) ∧ Ext ρ M H ρ (M.set n (.lst ys)) (upd H a (.lst vs)) := by
  have x : Ext ρ M H ρ (M.set n (.lst ys)) (upd H a (.lst vs)) := r.ext_put h (by simp) (by simp) ha
  exact ⟨r.put h (by simp) (by simp) ha (.lst upd_same z (q.ext x)), x⟩
theorem Rep.putD (r : Rep K ρ M H) {n : Nat} {xs ys : List (Key × D)} {vs : List (Key × V)} (h : M[n]? = some (.dct xs)) (ha : ρ.l[n]? = some a) (z : vs.length ≤ sizeLine) (q : RKs K H (Al ρ M) ρ ys vs) :
    Rep K ρ (M.set n (.dct ys)) (upd H a (.dK vs)) ∧ Ext ρ M H ρ (M.set n (.dct ys)) (upd H a (.dK vs)) := by
  have x : Ext ρ M H ρ (M.set n (.dct ys)) (upd H a (.dK vs)) := r.ext_put h (by simp) (by simp) ha
  exact ⟨r.put h (by simp) (by simp) ha (.dct upd_same z (q.ext x)), x⟩
/-- a list that changes no more -/
theorem Al.done {n : Nat} (h : Al ρ (M.set n .dead) b) : Al ρ M b := by
  rcases h with z | ⟨i, w, a1, a2, a3⟩
  · exact .inl z
  · by_cases hi : n = i
    · subst hi
      obtain ⟨hn, _⟩ := List.getElem?_eq_some_iff.mp a2
      rw [List.getElem?_set_self (by simpa using hn)] at a2
      cases a2
      exact absurd rfl a3
    · rw [List.getElem?_set_ne hi] at a2
      exact .inr ⟨i, w, a1, a2, a3⟩
theorem Rep.done (r : Rep K ρ M H) {n : Nat} {xs : List D} (h : M[n]? = some (.lst xs)) (ha : ρ.l[n]? = some a) :
    Rep K ρ (M.set n .dead) H ∧ Ext ρ M H ρ (M.set n .dead) H ∧ RD K H (Al ρ (M.set n .dead)) ρ (.lst xs) (.ref a) := by
  have x : Ext ρ M H ρ (M.set n .dead) H := ⟨⟨[], by simp⟩, rfl, fun _ _ => rfl, fun b o hb _ nb => ⟨hb, fun z => nb z.done⟩⟩
  obtain ⟨vs, h1, h2, h3⟩ := r.lst_at h ha
  refine ⟨⟨by simp [r.len], r.nd, fun i b q b1 b2 => ?_, r.hid, r.tab⟩, x, .lst h1 ?_ h2 (h3.ext x)⟩
  · by_cases hi : n = i
    · subst hi
      obtain ⟨hn, _⟩ := List.getElem?_eq_some_iff.mp b2
      rw [List.getElem?_set_self (by simpa using hn)] at b2
      cases b2
      rw [ha] at b1; cases b1
      exact .dead h1 not_lst
    · rw [List.getElem?_set_ne hi] at b2
      exact (r.obj i b q b1 b2).ext x rfl
  · rintro (z | ⟨i, w, a1, a2, a3⟩)
    · exact (r.hid a z).1 (List.mem_of_getElem? ha)
    · obtain ⟨l1, e1⟩ := List.getElem?_eq_some_iff.mp a1
      obtain ⟨l2, e2⟩ := List.getElem?_eq_some_iff.mp ha
      have hi : i = n := (List.getElem_inj r.nd).mp (e1.trans e2.symm)
      subst hi
      obtain ⟨hn, _⟩ := List.getElem?_eq_some_iff.mp a2
      rw [List.getElem?_set_self (by simpa using hn)] at a2
      cases a2
      exact a3 rfl
/-- a new tuple, a new value list -/
theorem Rep.newT (r : Rep K ρ M H) {xs : List D} {vs : List V} {o : Obj} (h : H p = none) (ho : o.dict = none) (z : vs.length ≤ sizeLine) (q : RDs K H (Al ρ M) ρ xs vs) :
    Rep K ρ M (upd H p (.frz o (.tup vs))) ∧ Ext ρ M H ρ M (upd H p (.frz o (.tup vs))) ∧ RD K (upd H p (.frz o (.tup vs))) (Al ρ M) ρ (.tup xs) (.ref p) := by
  obtain ⟨r1, x⟩ := r.val (o := .frz o (.tup vs)) h
  exact ⟨r1, x, .tup ⟨o, upd_same, ho⟩ (r.noal h) z (q.ext x)⟩
theorem Rep.newP (r : Rep K ρ M H) {xs : List D} {vs : List V} (h : H p = none) (z : vs.length ≤ sizeLine) (q : RDs K H (Al ρ M) ρ xs vs) :
    Rep K ρ M (upd H p (.tup vs)) ∧ Ext ρ M H ρ M (upd H p (.tup vs)) ∧ RD K (upd H p (.tup vs)) (Al ρ M) ρ (.pr xs) (.ref p) := by
  obtain ⟨r1, x⟩ := r.val (o := .tup vs) h
  exact ⟨r1, x, .pr upd_same (r.noal h) z (q.ext x)⟩
theorem Rep.newV (r : Rep K ρ M H) {xs : List D} {vs : List V} (h : H p = none) (z : vs.length ≤ sizeLine) (q : RDs K H (Al ρ M) ρ xs vs) :
    Rep K ρ M (upd H p (.lst vs)) ∧ Ext ρ M H ρ M (upd H p (.lst vs)) ∧ RD K (upd H p (.lst vs)) (Al ρ M) ρ (.lst xs) (.ref p) := by
  obtain ⟨r1, x⟩ := r.val (o := .lst vs) h
  exact ⟨r1, x, .lst upd_same (r.noal h) z (q.ext x)⟩

/-! ### slots -/
structure RE (K : PySem.W.Frag) (ρ : Pl) (M : Sto) (H : Hp) (env : En) (σ : L2.St) : Prop where
  len : σ.length = env.length
  at_ : ∀ (i : Nat) (d : D), env[i]? = some (some d) → ∃ v, σ[i]? = some (some v) ∧ RD K H (Al ρ M) ρ d v
variable {env : En} {σ : L2.St}
theorem RE.wk (x : Wk ρ M H ρ' M' H') (r : RE K ρ M H env σ) : RE K ρ' M' H' env σ := ⟨r.len, fun i d h => let ⟨v, h1, h2⟩ := r.at_ i d h; ⟨v, h1, h2.wk x⟩⟩
theorem RE.ext (x : Ext ρ M H ρ' M' H') (r : RE K ρ M H env σ) : RE K ρ' M' H' env σ := ⟨r.len, fun i d h => let ⟨v, h1, h2⟩ := r.at_ i d h; ⟨v, h1, h2.ext x⟩⟩
theorem RE.set (r : RE K ρ M H env σ) (i : Nat) {d : D} {v : V} (q : RD K H (Al ρ M) ρ d v) : RE K ρ M H (env.set i (some d)) (σ.set i (some v)) := by
  refine ⟨by simp [r.len], fun j e h => ?_⟩
  by_cases hj : i = j
  · subst hj
    obtain ⟨l, _⟩ := List.getElem?_eq_some_iff.mp h
    simp at l
    rw [List.getElem?_set_self l] at h
    cases h
    exact ⟨v, by rw [List.getElem?_set_self (by rw [r.len]; exact l)], q⟩
  · rw [List.getElem?_set_ne hj] at h
    obtain ⟨w, h1, h2⟩ := r.at_ j e h
    exact ⟨w, by rw [List.getElem?_set_ne hj]; exact h1, h2⟩
theorem RE.wipe (r : RE K ρ M H env σ) : ∀ vs : List Nat, RE K ρ M H (wipeE env vs) (wipe σ vs)
  | [] => r
  | v :: vs => by
    have ih := RE.wipe r vs
    refine ⟨by show (List.set _ _ _).length = (List.set _ _ _).length; simp [ih.len], fun j e h => ?_⟩
    have h : (List.set (wipeE env vs) v none)[j]? = some (some e) := h
    show ∃ w, (List.set (L2.wipe σ vs) v none)[j]? = some (some w) ∧ _
    by_cases hj : v = j
    · subst hj
      obtain ⟨l, _⟩ := List.getElem?_eq_some_iff.mp h
      simp at l
      rw [List.getElem?_set_self l] at h
      cases h
    · rw [List.getElem?_set_ne hj] at h
      obtain ⟨w, h1, h2⟩ := ih.at_ j e h
      exact ⟨w, by rw [List.getElem?_set_ne hj]; exact h1, h2⟩
end

/-! ### readings by what is reckoned -/
/-- an exception: class, what it keeps -/
def RX (K : PySem.W.Frag) (ca : String → Addr) (H : Hp) (al : Addr → Prop) (ρ : Pl) (c : String) (p : Option D) (cv : Value) (dd : Option Addr) : Prop :=
  cv = .ref (ca c) ∧ match p with
    | none => True
    | some d => ∃ a v, dd = some a ∧ ¬ al a ∧ H a = some (.xd [(("at" : Str), v)]) ∧ RD K H al ρ d v
/-- relations of what is told -/
abbrev Rl (α β : Type) := Hp → (Addr → Prop) → Pl → α → β → Prop
def rId {α : Type} : Rl α α := fun _ _ _ a b => a = b
structure Rl.Ok {α β : Type} (R : Rl α β) : Prop where
  ext : ∀ {ρ M H ρ' M' H' a b}, Ext ρ M H ρ' M' H' → R H (Al ρ M) ρ a b → R H' (Al ρ' M') ρ' a b
def Fi {α β : Type} (K : PySem.W.Frag) (ca : String → Addr) (R : Rl α β) (W : WX) (σ : L2.St) (ρ : Pl) (M : Sto) (H : Hp) (r : Res α) (Q : β → Hp → Prop) : Prop := match r with
  | .ok a M' => ∀ ρ' H' b, Rep K ρ' M' H' → Ext ρ M H ρ' M' H' → R H' (Al ρ' M') ρ' a b → Q b H'
  | .exc c p M' => ∀ ρ' H' cv dd, Rep K ρ' M' H' → Ext ρ M H ρ' M' H' → RX K ca H' (Al ρ' M') ρ' c p cv dd → W cv dd σ H'
  | .fail => False
section
variable {α β γ δ : Type} {K : PySem.W.Frag} {ca : String → Addr} {R : Rl α β} {R1 : Rl γ δ} {W : WX} {σ : L2.St} {ρ ρ1 : Pl} {M M1 : Sto} {H H1 : Hp} {Q : β → Hp → Prop}
theorem Fi.go {r : Res α} (x : Ext ρ M H ρ1 M1 H1) (h : Fi K ca R W σ ρ M H r Q) : Fi K ca R W σ ρ1 M1 H1 r Q := by
  cases r with
  | ok a M' => exact fun ρ' H' b r1 x1 q => h ρ' H' b r1 (x.trans x1) q
  | exc c p M' => exact fun ρ' H' cv dd r1 x1 q => h ρ' H' cv dd r1 (x.trans x1) q
  | fail => exact h
theorem Fi.bind {r : Res γ} {f : γ → Sto → Res α} (h : Fi K ca R W σ ρ M H (r.bind f) Q) :
    Fi K ca R1 W σ ρ M H r fun b H1 => ∃ ρ1 M1 a, Rep K ρ1 M1 H1 ∧ Ext ρ M H ρ1 M1 H1 ∧ R1 H1 (Al ρ1 M1) ρ1 a b ∧ Fi K ca R W σ ρ1 M1 H1 (f a M1) Q := by
  cases r with
  | ok a M' => exact fun ρ' H' b r1 x1 q => ⟨ρ', M', a, r1, x1, q, Fi.go x1 h⟩
  | exc c p M' => exact fun ρ' H' cv dd r1 x1 q => h ρ' H' cv dd r1 x1 q
  | fail => exact h
theorem Fi.imp {r : Res α} {Q' : β → Hp → Prop} (h : Fi K ca R W σ ρ M H r Q) (i : ∀ b H, Q b H → Q' b H) : Fi K ca R W σ ρ M H r Q' := by
  cases r with
  | ok a M' => exact fun ρ' H' b r1 x1 q => i _ _ (h ρ' H' b r1 x1 q)
  | exc c p M' => exact h
  | fail => exact h
theorem Fi.ofO {o : Option γ} {f : γ → Sto → Res α} (h : Fi K ca R W σ ρ M H ((ofO o M).bind f) Q) : ∃ a, o = some a ∧ Fi K ca R W σ ρ M H (f a M) Q := by
  cases o with
  | none => exact absurd h id
  | some a => exact ⟨a, rfl, h⟩
theorem Fi.ok {a : α} {b : β} (rp : Rep K ρ M H) (q : R H (Al ρ M) ρ a b) (h : Fi K ca R W σ ρ M H (.ok a M) Q) : Q b H := h ρ H b rp Ext.refl q
end
/-- the reading of a part by its meaning -/
def rd {α β : Type} (K : PySem.W.Frag) (ca : String → Addr) (R : Rl α β) (W : WX) (m : En → Sto → Res α) : L2.St → Hp → (β → Hp → Prop) → Prop :=
  fun σ H Q => ∃ ρ env M, Rep K ρ M H ∧ RE K ρ M H env σ ∧ Fi K ca R W σ ρ M H (m env M) Q
end Z


/-! Z3: operations: what is reckoned is what the machine does. -/
namespace Z
open PySem L2 PySem.Spec PyProof.Rows

theorem sz_le {n : Nat} (h : n ≤ 1000000) : n ≤ sizeLine := Nat.le_trans h (by rw [sizeLine_eq]; decide)
theorem sz_of {n : Nat} (h : fitLen n = true) : n ≤ sizeLine := sz_le (of_decide_eq_true h)
theorem sz_lt {n : Nat} (h : fitLen n = true) : n < sizeLine := Nat.lt_of_le_of_lt (of_decide_eq_true h) (by rw [sizeLine_eq]; decide)
/-- a rule under a wish that says more -/
theorem OpR.imp {X : Cx} {f : Value → Value → Sem Value} {r r' : R2} (h : OpR X f r) (i : ∀ x y H Q, r' x y H Q → r x y H Q) : OpR X f r' :=
  fun pins s σ H x y v u Q I rx ry q => h pins s σ H x y v u Q I rx ry (i _ _ _ _ q)
theorem pe_imp {X : Cx} {e : Expr} {t u : TE} (h : PE X e t) (i : ∀ σ H Q, u σ H Q → t σ H Q) : PE X e u := ⟨fun pins s σ H Q I q => h.run pins s σ H Q I (i _ _ _ q)⟩
theorem pt_imp {X : Cx} {e : Expr} {t u : TT} (h : PT X e t) (i : ∀ σ H Q, u σ H Q → t σ H Q) : PT X e u := ⟨fun pins s σ H Q I q => h.run pins s σ H Q I (i _ _ _ q)⟩
theorem pa_imp {X : Cx} {e : List Expr} {t u : TA} (h : PA X e t) (i : ∀ σ H Q, u σ H Q → t σ H Q) : PA X e u := ⟨fun p pins s σ H Q I q => h.run p pins s σ H Q I (i _ _ _ q)⟩
theorem ps_imp {X : Cx} {st : Stmt} {t u : TS} (h : PS X st t) (i : ∀ D σ H, u D σ H → t D σ H) : PS X st u := ⟨fun pins s σ H D I q => h.run pins s σ H D I (i _ _ _ q)⟩

/-! ### + - * // % ** -/
/-- t + u of tuples; the new one is known as the plain object that it is -/
def rCatF (K : PySem.W.Frag) : R2 := fun x y H Q => ∃ a b xs ys, (x = .ref a ∧ y = .ref b) ∧ (SqT K H a xs ∧ SqT K H b ys) ∧ xs.length + ys.length ≤ sizeLine ∧
  (xs = [] → Q y H) ∧ (xs ≠ [] → ys = [] → Q x H) ∧ (xs ≠ [] → ys ≠ [] → ∀ (p : Addr) (o : Obj), o.dict = none → H p = none → Q (.ref p) (upd H p (.frz o (.tup (xs ++ ys)))))
theorem op_catF {X : Cx} : OpR X (binaryOp .Add) (rCatF X.K) := by
  rintro pins s σ H x y v u Q I rx ry ⟨a, b, xs, ys, ⟨rfl, rfl⟩, ⟨ha, hb⟩, hz, q0, q1, q2⟩
  cases rx; cases ry
  obtain ⟨l1, r1, p1, _⟩ := I.tuple ha
  obtain ⟨l2, r2, p2, _⟩ := I.tuple hb
  by_cases hx : xs = []
  · subst hx; cases r1; exact cat_tup0 p1 p2 ⟨.ref b, H, I, rfl, q0 rfl⟩
  · refine HT.cat_tup p1 p2 (fun z => hx (r1.nil_iff.mp z)) (fun z => ⟨.ref a, H, I, rfl, q1 hx (r2.nil_iff.mp z)⟩) (fun z => ?_) (by rw [← r1.length, ← r2.length]; exact hz)
    refine ⟨.ref s.heap.objs.size, upd H s.heap.objs.size (.frz { cls := .type "tuple", data := .seq (l1 ++ l2).toArray } (.tup (xs ++ ys))), ?_, rfl, q2 hx (fun w => z (r2.nil_iff.mpr w)) _ _ rfl (I.hok.fresh (Nat.le_refl _))⟩
    refine I.laid (t' := s.toks) (fun b u e => Heap.get?_push_of_some _ e) (Nat.le_refl _) ⟨Heap.get?_push_size _ rfl, ?_, _, r1.append r2, IsTup.new _ _⟩
    rw [List.length_append]; exact hz
/-- a short text so often -/
theorem op_mulS {X : Cx} : OpR X (binaryOp .Mult) (fun x y H Q => ∃ (z : Str) (j : Int), x = .str z ∧ y = .int j ∧ (0 ≤ j ∧ j ≤ 1000 ∧ z.length ≤ 1000) ∧ Q (.str (Txt.mul z j)) H) := by
  intro pins s σ H x y v u Q I rx ry h
  obtain ⟨z, j, rfl, rfl, ⟨h1, h2, h3⟩, q⟩ := h
  obtain ⟨t, rfl⟩ := rx
  obtain ⟨t', rfl⟩ := ry
  refine SB.mul ⟨?_, fun h4 _ h5 => ?_, fun h4 _ => ?_⟩ fun t'' k => ⟨.str _, H, I.tok _, ⟨_, rfl⟩, q⟩
  · rw [decide_eq_false (by omega), decide_eq_false (by omega)]; rfl
  · have h6 : (1000 : Int) ≤ (2 ^ 63 - 1) / j := (Int.le_ediv_iff_mul_le (by omega)).mpr (by omega)
    omega
  · have h6 : z.length * j.toNat ≤ 1000 * 1000 := Nat.mul_le_mul h3 (by omega)
    unfold Builtin.Str.tooLong
    rw [decide_eq_false]
    have := sizeLine_eq
    omega
/-- t * 1 is t -/
theorem tuple_mul1 (l : Addr) (items : Array Value) (n : Nat) (dd : Option Addr) (sl : Array (Option Value)) (u : Tok) :
    Meets (Builtin.«tuple.__mul__» ⟨[.ref l, .int 1 u], []⟩) (fun _ R s => s.heap.get? l = some { cls := .type "tuple", dict := dd, data := .seq items n, slots := sl } ∧ R (.ok (.ret (Value.ref l))) s) :=
  .of_wp fun prog w A R s h => by
    obtain ⟨hp, g, d, tk, os⟩ := s
    obtain ⟨hl, h⟩ := h
    have f1 := AutoSeq1.idx_int
    have c0 : (decide ((1 : Int) < -(2 ^ 63)) || decide ((1 : Int) ≥ 2 ^ 63)) = false := by decide
    have c1 : (items.isEmpty || (1 : Int) == 1) = true := by simp
    wp_walk using wpAny_loadPart' hl
    repeat (first
      | (refine wpAny_ite_false (decide_eq_false (by rw [c0]; exact Bool.false_ne_true)) ?_; wp_walk using wpAny_loadPart' hl)
      | (refine wpAny_ite_true (decide_eq_true c1) ?_; wp_walk using wpAny_loadPart' hl))
    exact ⟨_, rfl, h⟩
/-- t * k, t not empty, k 1 or more -/
def rRepF (K : PySem.W.Frag) : R2 := fun x y H Q => ∃ l k xs, (x = .ref l ∧ y = .int k) ∧ SqT K H l xs ∧ (xs ≠ [] ∧ 1 ≤ k ∧ xs.length * k.toNat ≤ 1000000) ∧ (k = 1 → Q x H) ∧ (k ≠ 1 → ∀ (p : Addr) (o : Obj), o.dict = none → H p = none → Q (.ref p) (upd H p (.frz o (.tup (List.replicate k.toNat xs).flatten))))
theorem op_repF {X : Cx} : OpR X (binaryOp .Mult) (rRepF X.K) := by
  rintro pins s σ H x y v u Q I rx ry ⟨l, k, xs, ⟨rfl, rfl⟩, hT, ⟨hne, h1, hz⟩, q1, q2⟩
  cases rx
  obtain ⟨t, rfl⟩ := ry
  obtain ⟨its, r, ⟨⟨cls, dd, data, sl⟩, ho, hc, n, hd⟩, hs⟩ := I.tuple hT
  simp only at hc hd
  subst hc hd
  have hle := r.length
  have hpos : 0 < xs.length := List.length_pos_iff.mpr hne
  have hk : k.toNat ≤ 1000000 := Nat.le_trans (Nat.le_mul_of_pos_left _ hpos) hz
  have hi : its.toArray.isEmpty = false := by
    cases its with
    | nil => rw [hle] at hpos; exact absurd hpos (Nat.lt_irrefl 0)
    | cons a b => rfl
  have hsz0 : its.toArray.size = xs.length := by rw [List.size_toArray, hle]
  have hm : ((its.toArray.size : Nat) : Int) * k ≤ 1000000 := by
    rw [hsz0]
    have e : ((k.toNat : Nat) : Int) = k := Int.toNat_of_nonneg (by omega)
    rw [← e, ← Int.natCast_mul]
    exact Int.ofNat_le.mpr hz
  have flen : (List.replicate k.toNat its).flatten.length ≤ sizeLine := by
    rw [PyProof.Rows.lm_len_rep_flat, ← hle, Nat.mul_comm]
    exact sz_le hz
  have c0 : (decide (k < -(2 ^ 63)) || decide (k ≥ 2 ^ 63)) = false := by
    rw [decide_eq_false (by omega), decide_eq_false (by omega)]; rfl
  have c2 : (decide (k ≤ 0) || its.toArray.isEmpty) = false := by
    rw [hi, Bool.or_false]
    exact decide_eq_false (by omega)
  have c4 : Builtin.Tuple.tupleTooMany (((its.toArray.size : Nat) : Int) * k) = false := by
    unfold Builtin.Tuple.tupleTooMany
    rw [sizeLine_eq]
    exact decide_eq_false (by omega)
  refine wpAny_binaryOp_repeat_ref (T := "tuple") (U := "int") (by decide) ⟨_, ho, rfl⟩ (fun s' => typeIs_int s' k t) noFill_tuple_mul F.fills_int_mul F.slot_int_rmul repeat_tuple F.slot_int_index.lookup
    (call_meets F.slot_int_rmul (typeIs_int s k t) F.entry_int_rmul (F.args_int_rmul_2 _ _) (int_rmul_tuple k t l its.toArray n dd sl) ⟨ho, rfl, ⟨_, ho, rfl⟩, ?_⟩)
  by_cases hk1 : k = 1
  · subst hk1
    exact call_meets F.slot_tuple_mul ⟨_, ho, rfl⟩ F.entry_tuple_mul (F.args_tuple_mul_2 _ _) (tuple_mul1 l its.toArray n dd sl t) ⟨ho, .ref l, H, I, rfl, q1 rfl⟩
  · have c1 : (its.toArray.isEmpty || k == 1) = false := by
      rw [hi, Bool.false_or]
      exact beq_eq_false_iff_ne.mpr hk1
    refine call_meets F.slot_tuple_mul ⟨_, ho, rfl⟩ F.entry_tuple_mul (F.args_tuple_mul_2 _ _) (tuple_mulW l its.toArray n dd sl k t c0 c1 c2 (by omega) c4 (by rw [size_rep, List.size_toArray]; exact flen)) ⟨ho, ?_⟩
    rw [size_rep]
    refine ⟨.ref s.heap.objs.size, upd H s.heap.objs.size (.frz { cls := .type "tuple", data := .seq (List.replicate k.toNat its).flatten.toArray } (.tup (List.replicate k.toNat xs).flatten)), ?_, rfl, q2 hk1 _ _ rfl (I.hok.fresh (Nat.le_refl _))⟩
    refine I.laid (t' := s.toks) (fun b u e => Heap.get?_push_of_some _ e) (Nat.le_refl _) ⟨Heap.get?_push_size _ rfl, ?_, _, r.rep k.toNat, IsTup.new _ _⟩
    rw [PyProof.Rows.lm_len_rep_flat, Nat.mul_comm]
    exact sz_le hz
abbrev rDD (K : PySem.W.Frag) : Rl D V := fun H al ρ d v => RD K H al ρ d v
abbrev rDs (K : PySem.W.Frag) : Rl (List D) (List V) := fun H al ρ d v => RDs K H al ρ d v
def bopOf : Bop → Operator
  | .add => .Add | .sub => .Sub | .mul => .Mult | .fdiv => .FloorDiv | .mod => .Mod | .pow => .Pow
def rAddZ (K : PySem.W.Frag) : R2 := fun x y H Q => (∃ i j, x = .int i ∧ y = .int j ∧ Q (.int (i + j)) H) ∨ (∃ i j, x = .str i ∧ y = .str j ∧ i.length + j.length ≤ sizeLine ∧ Q (.str (i ++ j)) H) ∨ rCat x y H Q ∨ rCatF K x y H Q
def rMulZ (K : PySem.W.Frag) : R2 := fun x y H Q => (∃ i j, x = .int i ∧ y = .int j ∧ CMulW i j ∧ Q (.int (i * j)) H) ∨ (∃ (z : Str) (j : Int), x = .str z ∧ y = .int j ∧ (0 ≤ j ∧ j ≤ 1000 ∧ z.length ≤ 1000) ∧ Q (.str (Txt.mul z j)) H) ∨ rRep x y H Q ∨ rRepF K x y H Q
def rBinZ (K : PySem.W.Frag) : Bop → R2
  | .add => rAddZ K
  | .sub => rI0 fun i j => .int (i - j)
  | .mul => rMulZ K
  | .fdiv => rI CDivW fun i j => .int (i / j)
  | .mod => rI (fun _ j => 0 < j) fun i j => .int (i % j)
  | .pow => rI CPow fun i j => .int (i ^ j.toNat)
theorem op_binZ {X : Cx} : ∀ op : Bop, OpR X (binaryOp (bopOf op)) (rBinZ X.K op)
  | .add => OpR.or op_add (OpR.or op_add_str (OpR.or op_cat op_catF))
  | .sub => op_sub
  | .mul => OpR.or op_mulW (OpR.or op_mulS (OpR.or op_rep op_repF))
  | .fdiv => op_fdivW
  | .mod => op_mod
  | .pow => op_pow
section
variable {K : PySem.W.Frag} {ca : String → Addr} {W : WX} {σ : L2.St} {ρ : Pl} {M : Sto} {H : Hp} {Q : VK} {x y : V} {dx dy : D}
theorem cat_nil_l {α : Type} (ys : List α) : [] ++ ys = ys := rfl
theorem Fi.ite {α β : Type} {R : Rl α β} {Q : β → Hp → Prop} {c : Bool} {r : Res α} (f : Fi K ca R W σ ρ M H (if c = true then r else .fail) Q) : c = true ∧ Fi K ca R W σ ρ M H r Q := by
  cases c with
  | true => exact ⟨rfl, f⟩
  | false => exact absurd f id
theorem binD_rd {op : Bop} (rp : Rep K ρ M H) (qx : RD K H (Al ρ M) ρ dx x) (qy : RD K H (Al ρ M) ρ dy y) (f : Fi K ca (rDD K) W σ ρ M H (binD op dx dy M) Q) : rBinZ K op x y H Q := by
  unfold binD at f
  split at f
  · rw [qx.int_inv, qy.int_inv]
    exact .inl ⟨_, _, rfl, rfl, f.ok rp (.int _)⟩
  · rw [qx.int_inv, qy.int_inv]
    exact ⟨_, _, rfl, rfl, f.ok rp (.int _)⟩
  · rw [qx.int_inv, qy.int_inv]
    obtain ⟨c, f⟩ := f.ite
    have c := of_decide_eq_true c
    exact .inl ⟨_, _, rfl, rfl, c, f.ok rp (.int _)⟩
  · rw [qx.int_inv, qy.int_inv]
    obtain ⟨c, f⟩ := f.ite
    have c := of_decide_eq_true c
    exact ⟨_, _, rfl, rfl, ⟨c.1, by have := c.2; omega⟩, f.ok rp (.int _)⟩
  · rw [qx.int_inv, qy.int_inv]
    obtain ⟨c, f⟩ := f.ite
    have c := of_decide_eq_true c
    exact ⟨_, _, rfl, rfl, c, f.ok rp (.int _)⟩
  · rw [qx.int_inv, qy.int_inv]
    obtain ⟨c, f⟩ := f.ite
    have c := of_decide_eq_true c
    exact ⟨_, _, rfl, rfl, c, f.ok rp (.int _)⟩
  · rw [qx.str_inv, qy.str_inv]
    obtain ⟨c, f⟩ := f.ite
    exact .inr (.inl ⟨_, _, rfl, rfl, sz_of c, f.ok rp (.str _)⟩)
  · rw [qx.str_inv, qy.int_inv]
    obtain ⟨c, f⟩ := f.ite
    exact .inr (.inl ⟨_, _, rfl, rfl, of_decide_eq_true c, f.ok rp (.str _)⟩)
  · obtain ⟨c, f⟩ := f.ite
    obtain ⟨a, vs, rfl, ha, na, za, ra⟩ := qx.lst_inv
    obtain ⟨b, ws, rfl, hb, nb, zb, rb⟩ := qy.lst_inv
    have c := sz_of c
    rw [ra.length, rb.length] at c
    refine .inr (.inr (.inl ⟨a, b, vs, ws, rfl, rfl, ha, hb, c, fun p hp => ?_⟩))
    obtain ⟨r1, x1, q1⟩ := rp.newV hp (by rw [List.length_append]; exact c) (ra.append rb)
    exact (f.go x1).ok r1 q1
  · obtain ⟨c, f⟩ := f.ite
    have c := of_decide_eq_true c
    obtain ⟨a, vs, rfl, ha, na, za, ra⟩ := qx.lst_inv
    rw [qy.int_inv]
    rw [ra.length] at c
    have h6 : vs.length * (Int.toNat _) ≤ 1000 * 1000 := Nat.mul_le_mul c.2.2 (by have := c.1; have := c.2.1; exact Int.toNat_le.mpr (by omega))
    have h7 := sz_le h6
    refine .inr (.inr (.inl ⟨a, _, vs, rfl, rfl, ha, by omega, by omega, h7, fun p hp => ?_⟩))
    obtain ⟨r1, x1, q1⟩ := rp.newV hp (by rw [List.length_flatten, List.map_replicate, List.sum_replicate_nat, Nat.mul_comm]; exact h7) (ra.rep _)
    exact (f.go x1).ok r1 q1
  · obtain ⟨c, f⟩ := f.ite
    have c := of_decide_eq_true c
    obtain ⟨a, vs, rfl, ha, za, ra⟩ := qx.tup_inv
    rw [qy.int_inv]
    rw [ra.length] at c
    refine .inr (.inr (.inr ⟨a, _, vs, ⟨rfl, rfl⟩, ha, ⟨fun e => ?_, c.2.1, c.2.2⟩, fun e => ?_, fun _ p o ho hp => ?_⟩))
    · rw [e] at c
      exact absurd c.1 (Nat.lt_irrefl 0)
    · subst e
      rw [show (List.replicate (Int.toNat 1) _).flatten = _ from List.append_nil _] at f
      exact f.ok rp qx
    · obtain ⟨r1, x1, q1⟩ := rp.newT hp ho (by rw [List.length_flatten, List.map_replicate, List.sum_replicate_nat, Nat.mul_comm]; exact sz_le c.2.2) (ra.rep _)
      exact (f.go x1).ok r1 q1
  · obtain ⟨c, f⟩ := f.ite
    obtain ⟨a, vs, rfl, ha, za, ra⟩ := qx.tup_inv
    obtain ⟨b, ws, rfl, hb, zb, rb⟩ := qy.tup_inv
    have c := sz_of c
    rw [ra.length, rb.length] at c
    refine .inr (.inr (.inr ⟨a, b, vs, ws, ⟨rfl, rfl⟩, ⟨ha, hb⟩, c, fun e => ?_, fun _ e => ?_, fun _ _ p o ho hp => ?_⟩))
    · subst e
      cases ra
      exact f.ok rp qy
    · subst e
      cases rb
      rw [List.append_nil] at f
      exact f.ok rp qx
    · obtain ⟨r1, x1, q1⟩ := rp.newT hp ho (by rw [List.length_append]; exact c) (ra.append rb)
      exact (f.go x1).ok r1 q1
  · exact absurd f id
end
/-! ### == and != -/
mutual
def D.py : D → PyData
  | .bl b => .bool b
  | .int i => .int i
  | .str s => .str s
  | .tup xs => .tuple (D.pys xs)
  | .lst xs => .list (D.pys xs)
  | _ => .none
def D.pys : List D → List PyData
  | [] => []
  | x :: xs => x.py :: D.pys xs
end
mutual
theorem fit_lay : ∀ {n : Nat} {d : D}, D.fit n d = true → d.py.canLay0 = true
  | _, .non, _ => rfl
  | _, .bl _, _ => rfl
  | _, .int _, _ => rfl
  | n, .str s, h => by unfold D.fit at h; exact h
  | 0, .tup xs, h => by simp [D.fit] at h
  | 0, .lst xs, h => by simp [D.fit] at h
  | n + 1, .tup xs, h => fits_lay (n := n) (by unfold D.fit at h; exact h)
  | n + 1, .lst xs, h => fits_lay (n := n) (by unfold D.fit at h; exact h)
  | n, .scr xs, h => by unfold D.fit at h; cases n <;> cases h
  | n, .loc k, h => by unfold D.fit at h; cases n <;> cases h
  | n, .pr k, h => by unfold D.fit at h; cases n <;> cases h
theorem fits_lay : ∀ {n : Nat} {ds : List D}, D.fits n ds = true → PyData.canLayAll0 (D.pys ds) = true
  | _, [], _ => rfl
  | n, x :: xs, h => by
    unfold D.fits at h
    rw [Bool.and_eq_true] at h
    show (PyData.canLay0 x.py && PyData.canLayAll0 (D.pys xs)) = true
    rw [fit_lay h.1, fits_lay h.2]; rfl
end
mutual
theorem fit_deep : ∀ {n : Nat} {d : D}, D.fit n d = true → d.py.depth ≤ n
  | _, .non, _ => Nat.zero_le _
  | _, .bl _, _ => Nat.zero_le _
  | _, .int _, _ => Nat.zero_le _
  | n, .str s, h => Nat.zero_le _
  | 0, .tup xs, h => by simp [D.fit] at h
  | 0, .lst xs, h => by simp [D.fit] at h
  | n + 1, .tup xs, h => Nat.succ_le_succ (fits_deep (n := n) (by unfold D.fit at h; exact h))
  | n + 1, .lst xs, h => Nat.succ_le_succ (fits_deep (n := n) (by unfold D.fit at h; exact h))
  | n, .scr xs, h => by unfold D.fit at h; cases n <;> cases h
  | n, .loc k, h => by unfold D.fit at h; cases n <;> cases h
  | n, .pr k, h => by unfold D.fit at h; cases n <;> cases h
theorem fits_deep : ∀ {n : Nat} {ds : List D}, D.fits n ds = true → PyData.depthAll (D.pys ds) ≤ n
  | _, [], _ => Nat.zero_le _
  | n, x :: xs, h => by
    unfold D.fits at h
    rw [Bool.and_eq_true] at h
    exact Nat.max_le.mpr ⟨fit_deep h.1, fits_deep h.2⟩
end
theorem fit_shaped {d : D} (h : D.fit 64 d = true) : SeqAt.shaped d.py = true := by
  unfold SeqAt.shaped
  rw [fit_lay h, decide_eq_true (fit_deep h)]; rfl
mutual
theorem eqv_py : ∀ {n m : Nat} {a b : D}, D.fit n a = true → D.fit m b = true → PyData.eqv a.py b.py = D.eqv a b
  | n, m, .tup xs, .tup ys, h1, h2 => by
    cases n with
    | zero => simp [D.fit] at h1
    | succ n => cases m with
      | zero => simp [D.fit] at h2
      | succ m =>
        unfold D.fit at h1 h2
        show PyData.eqvAll (D.pys xs) (D.pys ys) = D.eqvs xs ys
        exact eqvs_py h1 h2
  | n, m, .lst xs, .lst ys, h1, h2 => by
    cases n with
    | zero => simp [D.fit] at h1
    | succ n => cases m with
      | zero => simp [D.fit] at h2
      | succ m =>
        unfold D.fit at h1 h2
        show PyData.eqvAll (D.pys xs) (D.pys ys) = D.eqvs xs ys
        exact eqvs_py h1 h2
  | n, m, .scr xs, _, h1, _ => by unfold D.fit at h1; cases n <;> cases h1
  | n, m, .loc xs, _, h1, _ => by unfold D.fit at h1; cases n <;> cases h1
  | n, m, .pr xs, _, h1, _ => by unfold D.fit at h1; cases n <;> cases h1
  | n, m, .non, b, h1, h2 => by cases b <;> first | rfl | (unfold D.fit at h2; cases m <;> cases h2)
  | n, m, .bl x, b, h1, h2 => by cases b <;> first | rfl | (unfold D.fit at h2; cases m <;> cases h2)
  | n, m, .int x, b, h1, h2 => by cases b <;> first | rfl | (unfold D.fit at h2; cases m <;> cases h2)
  | n, m, .str x, b, h1, h2 => by cases b <;> first | rfl | (unfold D.fit at h2; cases m <;> cases h2)
  | n, m, .tup xs, .non, h1, h2 => rfl
  | n, m, .tup xs, .bl _, h1, h2 => rfl
  | n, m, .tup xs, .int _, h1, h2 => rfl
  | n, m, .tup xs, .str _, h1, h2 => rfl
  | n, m, .tup xs, .lst _, h1, h2 => rfl
  | n, m, .tup xs, .scr _, h1, h2 => by unfold D.fit at h2; cases m <;> cases h2
  | n, m, .tup xs, .loc _, h1, h2 => by unfold D.fit at h2; cases m <;> cases h2
  | n, m, .tup xs, .pr _, h1, h2 => by unfold D.fit at h2; cases m <;> cases h2
  | n, m, .lst xs, .non, h1, h2 => rfl
  | n, m, .lst xs, .bl _, h1, h2 => rfl
  | n, m, .lst xs, .int _, h1, h2 => rfl
  | n, m, .lst xs, .str _, h1, h2 => rfl
  | n, m, .lst xs, .tup _, h1, h2 => rfl
  | n, m, .lst xs, .scr _, h1, h2 => by unfold D.fit at h2; cases m <;> cases h2
  | n, m, .lst xs, .loc _, h1, h2 => by unfold D.fit at h2; cases m <;> cases h2
  | n, m, .lst xs, .pr _, h1, h2 => by unfold D.fit at h2; cases m <;> cases h2
theorem eqvs_py : ∀ {n m : Nat} {a b : List D}, D.fits n a = true → D.fits m b = true → PyData.eqvAll (D.pys a) (D.pys b) = D.eqvs a b
  | _, _, [], [], _, _ => rfl
  | _, _, [], _ :: _, _, _ => rfl
  | _, _, _ :: _, [], _, _ => rfl
  | n, m, x :: xs, y :: ys, h1, h2 => by
    unfold D.fits at h1 h2
    rw [Bool.and_eq_true] at h1 h2
    show (PyData.eqv x.py y.py && PyData.eqvAll (D.pys xs) (D.pys ys)) = (D.eqv x y && D.eqvs xs ys)
    rw [eqv_py h1.1 h2.1, eqvs_py h1.2 h2.2]
end
section
variable {K : PySem.W.Frag} {H : Hp} {al : Addr → Prop} {ρ : Pl}
mutual
theorem fit_dp : ∀ {n : Nat} {d : D} {v : V}, D.fit n d = true → RD K H al ρ d v → Dp K H v d.py
  | _, _, _, _, .non => .non
  | _, _, _, _, .bl b => .bl b
  | _, _, _, _, .int b => .int b
  | _, _, _, _, .str b => .str b
  | 0, .tup xs, _, h, _ => by simp [D.fit] at h
  | 0, .lst xs, _, h, _ => by simp [D.fit] at h
  | n + 1, .tup xs, _, h, .tup ⟨o, h1, _⟩ h2 h3 h4 => .tup (.inl (.inr ⟨o, h1⟩)) (fits_dp (n := n) (by unfold D.fit at h; exact h) h4)
  | n + 1, .tup xs, _, h, .tupK h1 h2 h3 h4 h5 h6 h7 => .tup (.inr ⟨_, _, _, h1, h2.1, h3, h4, h5⟩) (fits_dp (n := n) (by unfold D.fit at h; exact h) h7)
  | n + 1, .lst xs, _, h, .lst h1 h2 h3 h4 => .lst (.inl (.inl h1)) (fits_dp (n := n) (by unfold D.fit at h; exact h) h4)
  | n, .scr xs, _, h, _ => by unfold D.fit at h; cases n <;> cases h
  | n, .loc k, _, h, _ => by unfold D.fit at h; cases n <;> cases h
  | n, .pr k, _, h, _ => by unfold D.fit at h; cases n <;> cases h
theorem fits_dp : ∀ {n : Nat} {ds : List D} {vs : List V}, D.fits n ds = true → RDs K H al ρ ds vs → DpAll K H vs (D.pys ds)
  | _, _, _, _, .nil => .nil
  | n, x :: xs, _, h, .cons q r => by
    unfold D.fits at h
    rw [Bool.and_eq_true] at h
    exact .cons (fit_dp h.1 q) (fits_dp h.2 r)
end
end
section
variable {K : PySem.W.Frag} {H : Hp} {ρ : Pl} {M : Sto} {x y : V} {dx dy : D} {b : Bool}
theorem seen_dp (rp : Rep K ρ M H) (q : RD K H (Al ρ M) ρ dx x) (h : D.fit 64 (dx.seen M) = true) : Dp K H x (dx.seen M).py := by
  cases dx with
  | loc n =>
    obtain ⟨a, rfl, ha⟩ := q.loc_inv
    have bad : D.fit 64 (.loc n) = true → False := fun z => Bool.false_ne_true z
    dsimp only [D.seen] at h ⊢
    cases e : M[n]? with
    | none => rw [e] at h; exact (bad h).elim
    | some o =>
      rw [e] at h
      cases o with
      | lst xs =>
        obtain ⟨vs, h1, _, h2⟩ := rp.lst_at e ha
        exact .lst (.inl (.inl h1)) (fits_dp (n := 63) h h2)
      | dead => exact (bad h).elim
      | dct _ => exact (bad h).elim
      | ins _ _ => exact (bad h).elim
  | _ => exact fit_dp h q
theorem scal_flat {a b : D} (h : D.scal a b = true) : a.flat = true ∧ b.flat = true := by
  unfold D.scal at h
  split at h
  · cases h
  · cases h
  · rw [Bool.and_eq_true] at h; exact h
theorem scal_eq (h : D.scal dx dy = true) {al : Addr → Prop} (qx : RD K H al ρ dx x) (qy : RD K H al ρ dy y) : L2.scal x y = true ∧ decide (x = y) = D.eqv dx dy := by
  have hf := scal_flat h
  cases dx <;> simp [D.flat] at hf <;> cases dy <;> simp [D.flat] at hf <;> cases qx <;> cases qy <;> first | (simp [D.scal] at h; done) | (refine ⟨rfl, ?_⟩; simp [D.eqv]; done) | (refine ⟨rfl, ?_⟩; rw [Bool.eq_iff_iff]; simp [D.eqv])
def rEqZ (K : PySem.W.Frag) : R2 := fun x y H Q => rEq x y H Q ∨ rEqD K x y H Q
def rNeZ (K : PySem.W.Frag) : R2 := fun x y H Q => rNe x y H Q ∨ rNeD K x y H Q
theorem eqD_rd {Q : VK} (rp : Rep K ρ M H) (qx : RD K H (Al ρ M) ρ dx x) (qy : RD K H (Al ρ M) ρ dy y) (e : eqD M dx dy = some b) : (Q (.bl b) H → rEqZ K x y H Q) ∧ (Q (.bl (!b)) H → rNeZ K x y H Q) := by
  unfold eqD at e
  split at e
  · rename_i h
    obtain ⟨h1, h2⟩ := scal_eq h qx qy
    have e := Option.some.inj e
    rw [← h2] at e
    subst e
    exact ⟨fun q => .inl ⟨h1, q⟩, fun q => .inl ⟨h1, q⟩⟩
  · simp only at e
    split at e
    · rename_i h
      rw [Bool.and_eq_true] at h
      have e := Option.some.inj e
      rw [← eqv_py h.1 h.2] at e
      subst e
      exact ⟨fun q => .inr ⟨_, _, seen_dp rp qx h.1, seen_dp rp qy h.2, fit_shaped h.1, fit_shaped h.2, q⟩, fun q => .inr ⟨_, _, seen_dp rp qx h.1, seen_dp rp qy h.2, fit_shaped h.1, fit_shaped h.2, q⟩⟩
    · cases e
end
/-! ### <, in, .. -/
def copOf : Cop → CmpOp
  | .eq => .Eq | .ne => .NotEq | .lt => .Lt | .le => .LtE | .gt => .Gt | .ge => .GtE | .inn => .In | .nin => .NotIn
def rDinZ (neg : Bool) : R2 := fun y x H Q => ∃ a o, x = .ref a ∧ DGet H a y o ∧ Q (.bl (if neg then !o.isSome else o.isSome)) H
theorem op_dinZ {X : Cx} (hu : X.A.units + 1 < cLine) : OpR X (compareOp .In) (rDinZ false) := by
  intro pins s σ H x y v u Q I rx ry h
  obtain ⟨a, o, rfl, g, q⟩ := h
  obtain rfl : u = Value.ref a := ry
  exact d_in hu I g rx fun s' J => ⟨.bl o.isSome, H, J, rfl, q⟩
theorem op_dninZ {X : Cx} (hu : X.A.units + 1 < cLine) : OpR X (compareOp .NotIn) (rDinZ true) := by
  intro pins s σ H x y v u Q I rx ry h
  obtain ⟨a, o, rfl, g, q⟩ := h
  obtain rfl : u = Value.ref a := ry
  exact d_notIn hu I g rx fun s' J => ⟨.bl (!o.isSome), H, J, rfl, q⟩
def rInZ (K : PySem.W.Frag) : R2 := fun x y H Q => (∃ (c : Nat) (z : Str), x = .str ⟨#[c]⟩ ∧ y = .str z ∧ Q (.bl (decide (c ∈ z.cps.toList))) H) ∨ rIn K false x y H Q ∨ rDinZ false x y H Q ∨ rInD K x y H Q
def rNinZ (K : PySem.W.Frag) : R2 := fun x y H Q => (∃ (c : Nat) (z : Str), x = .str ⟨#[c]⟩ ∧ y = .str z ∧ Q (.bl (!decide (c ∈ z.cps.toList))) H) ∨ rIn K true x y H Q ∨ rDinZ true x y H Q ∨ rNotInD K x y H Q
def rLtZ : R2 := fun x y H Q => (∃ i j, x = .int i ∧ y = .int j ∧ Q (.bl (decide (i < j))) H) ∨ ∃ i j, x = .str i ∧ y = .str j ∧ Q (.bl (decide (i.cps.toList < j.cps.toList))) H
def rCmpZ (K : PySem.W.Frag) : Cop → R2
  | .eq => rEqZ K
  | .ne => rNeZ K
  | .lt => rLtZ
  | .le => rI0 fun i j => .bl (decide (i ≤ j))
  | .gt => rI0 fun i j => .bl (decide (j < i))
  | .ge => rI0 fun i j => .bl (decide (j ≤ i))
  | .inn => rInZ K
  | .nin => rNinZ K
theorem op_cmpZ {X : Cx} (hu : X.A.units + 65 < cLine) : ∀ op : Cop, OpR X (compareOp (copOf op)) (rCmpZ X.K op)
  | .eq => OpR.or op_eq (op_eqD (by omega))
  | .ne => OpR.or op_ne (op_neD (by omega))
  | .lt => OpR.or op_lt op_lt_str
  | .le => op_le
  | .gt => op_gt
  | .ge => op_ge
  | .inn => OpR.or op_in_sign (OpR.or op_in_seq (OpR.or (op_dinZ (by omega)) (op_inD hu)))
  | .nin => OpR.or op_notIn_sign (OpR.or op_notIn_seq (OpR.or (op_dninZ (by omega)) (op_notInD hu)))
section
variable {K : PySem.W.Frag} {H : Hp} {ρ : Pl} {M : Sto} {x y : V} {dx dy : D} {b : Bool} {al : Addr → Prop}
theorem flat_rd (h : dx.flat = true) (q : RD K H al ρ dx x) : flatV x = true := by
  cases q <;> first | rfl | simp [D.flat] at h
theorem flats_rd : ∀ {ds : List D} {vs : List V}, ds.all D.flat = true → RDs K H al ρ ds vs → vs.all flatV = true
  | _, _, _, .nil => rfl
  | _, _, h, .cons q r => by
    rw [List.all_cons, Bool.and_eq_true] at h
    rw [List.all_cons, flat_rd h.1 q, flats_rd h.2 r]; rfl
theorem eqv_flat (hx : dx.flat = true) (hy : dy.flat = true) (qx : RD K H al ρ dx x) (qy : RD K H al ρ dy y) : eqV x y = D.eqv dx dy := by
  cases qx <;> first | (simp [D.flat] at hx; done) | (cases qy <;> first | (simp [D.flat] at hy; done) | rfl)
theorem any_flat (hx : dx.flat = true) (qx : RD K H al ρ dx x) : ∀ {ds : List D} {vs : List V}, ds.all D.flat = true → RDs K H al ρ ds vs → inV x vs = ds.any fun z => D.eqv z dx
  | _, _, _, .nil => rfl
  | _, _, h, .cons q r => by
    rw [List.all_cons, Bool.and_eq_true] at h
    have ih := any_flat hx qx h.2 r
    unfold inV at ih ⊢
    rw [List.any_cons, List.any_cons, ih, eqv_flat h.1 hx q qx]
theorem keys_any : ∀ {kvs : List (Key × D)} {ws : List (Key × V)} (k : Key), RKs K H al ρ kvs ws → (kvs.any fun kv => decide (kv.1 = k)) = (valV ws k).isSome
  | _, _, k, .nil => rfl
  | _, _, k, .cons (k := j) q r => by
    rw [List.any_cons, keys_any k r]
    by_cases e : j = k
    · rw [valV_pos (p := (j, _)) e, decide_eq_true e]; rfl
    · rw [valV_neg (p := (j, _)) e, decide_eq_false e]; rfl
theorem keys_get : ∀ {kvs : List (Key × D)} {ws : List (Key × V)} (k : Key), RKs K H al ρ kvs ws → (getK kvs k = none ∧ valV ws k = none) ∨ ∃ d v, getK kvs k = some d ∧ valV ws k = some v ∧ RD K H al ρ d v
  | _, _, k, .nil => .inl ⟨rfl, rfl⟩
  | _, _, k, .cons (k := j) q r => by
    by_cases e : j = k
    · exact .inr ⟨_, _, by simp [getK, e], valV_pos (p := (j, _)) e, q⟩
    · rw [valV_neg (p := (j, _)) e]
      rcases keys_get k r with ⟨h1, h2⟩ | ⟨d, v, h1, h2, h3⟩
      · exact .inl ⟨by unfold getK at h1 ⊢; rw [List.find?_cons_of_neg (by simpa using e)]; exact h1, h2⟩
      · exact .inr ⟨d, v, by unfold getK at h1 ⊢; rw [List.find?_cons_of_neg (by simpa using e)]; exact h1, h2, h3⟩
theorem inStr_inv {a c : Str} (e : inStr a c = some b) : ∃ n, a = ⟨#[n]⟩ ∧ b = decide (n ∈ c.cps.toList) := by
  unfold inStr at e
  split at e
  · rename_i n h
    refine ⟨n, ?_, (Option.some.inj e).symm⟩
    obtain ⟨z⟩ := a
    have : z = #[n] := by
      apply Array.toList_inj.mp
      simpa using h
    rw [this]
  · cases e
theorem any_py {n m : Nat} {d : D} (hd : D.fit m d = true) : ∀ {ds : List D}, D.fits n ds = true → ((D.pys ds).any fun z => PyData.eqv z d.py) = ds.any fun z => D.eqv z d
  | [], _ => rfl
  | x :: r, h => by
    unfold D.fits at h
    rw [Bool.and_eq_true] at h
    show (PyData.eqv x.py d.py || (D.pys r).any fun z => PyData.eqv z d.py) = _
    rw [eqv_py h.1 hd, any_py hd h.2, List.any_cons]
theorem inD_rd {Q : VK} (rp : Rep K ρ M H) (qx : RD K H (Al ρ M) ρ dx x) (qy : RD K H (Al ρ M) ρ dy y) (e : inD M dx dy = some b) : (Q (.bl b) H → rInZ K x y H Q) ∧ (Q (.bl (!b)) H → rNinZ K x y H Q) := by
  have dat : ∀ {xs : List D} {vs : List V} {a : Addr}, y = .ref a → H a = some (.lst vs) → RDs K H (Al ρ M) ρ xs vs → D.fit 64 dx = true → D.fits 63 xs = true → b = (xs.any fun z => D.eqv z dx) →
      (Q (.bl b) H → rInZ K x y H Q) ∧ (Q (.bl (!b)) H → rNinZ K x y H Q) := by
    intro xs vs a ey ha r h1 h2 e
    subst ey
    have k1 : Dp K H (.ref a) (.list (D.pys xs)) := .lst (.inl (.inl ha)) (fits_dp (n := 63) h2 r)
    have k2 : SeqAt.shaped (.list (D.pys xs)) = true := fit_shaped (d := .lst xs) (show D.fit 64 (.lst xs) = true from h2)
    rw [e, ← any_py h1 h2]
    exact ⟨fun q => .inr (.inr (.inr ⟨_, _, fit_dp h1 qx, k1, fit_shaped h1, k2, q⟩)), fun q => .inr (.inr (.inr ⟨_, _, fit_dp h1 qx, k1, fit_shaped h1, k2, q⟩))⟩
  have seqL : ∀ {xs : List D} {vs : List V} {a : Addr}, y = .ref a → H a = some (.lst vs) → RDs K H (Al ρ M) ρ xs vs → (if (dx.flat && xs.all D.flat) = true then some (xs.any fun z => D.eqv z dx) else if (D.fit 64 dx && D.fits 63 xs) = true then some (xs.any fun z => D.eqv z dx) else none) = some b →
      (Q (.bl b) H → rInZ K x y H Q) ∧ (Q (.bl (!b)) H → rNinZ K x y H Q) := by
    intro xs vs a ey ha r e
    split at e
    · rename_i h
      rw [Bool.and_eq_true] at h
      have e := Option.some.inj e
      rw [← any_flat h.1 qx h.2 r] at e
      subst e
      exact ⟨fun q => .inr (.inl ⟨a, vs, ey, .inl (.inl (.inl ha)), flat_rd h.1 qx, flats_rd h.2 r, q⟩), fun q => .inr (.inl ⟨a, vs, ey, .inl (.inl (.inl ha)), flat_rd h.1 qx, flats_rd h.2 r, q⟩)⟩
    · split at e
      · rename_i h
        rw [Bool.and_eq_true] at h
        exact dat ey ha r h.1 h.2 (Option.some.inj e).symm
      · cases e
  have seq : ∀ {xs : List D} {vs : List V} {a : Addr}, y = .ref a → (SqL K H a vs ∨ SqT K H a vs) → RDs K H (Al ρ M) ρ xs vs → (if (dx.flat && xs.all D.flat) = true then some (xs.any fun z => D.eqv z dx) else none) = some b →
      (Q (.bl b) H → rInZ K x y H Q) ∧ (Q (.bl (!b)) H → rNinZ K x y H Q) := by
    intro xs vs a ey hs r e
    split at e
    · rename_i h
      rw [Bool.and_eq_true] at h
      have e := Option.some.inj e
      rw [← any_flat h.1 qx h.2 r] at e
      subst e
      exact ⟨fun q => .inr (.inl ⟨a, vs, ey, hs, flat_rd h.1 qx, flats_rd h.2 r, q⟩), fun q => .inr (.inl ⟨a, vs, ey, hs, flat_rd h.1 qx, flats_rd h.2 r, q⟩)⟩
    · cases e
  unfold inD at e
  split at e
  · obtain ⟨n, rfl, rfl⟩ := inStr_inv e
    rw [qx.str_inv, qy.str_inv]
    exact ⟨fun q => .inl ⟨n, _, rfl, rfl, q⟩, fun q => .inl ⟨n, _, rfl, rfl, q⟩⟩
  · obtain ⟨a, rfl, ha⟩ := qy.loc_inv
    split at e
    · rename_i h
      obtain ⟨vs, h1, _, h2⟩ := rp.lst_at h ha
      exact seqL rfl h1 h2 e
    · rename_i h
      obtain ⟨ws, h1, _, h2⟩ := rp.dct_at h ha
      rw [qx.str_inv]
      have e := Option.some.inj e
      rw [keys_any _ h2] at e
      subst e
      exact ⟨fun q => .inr (.inr (.inl ⟨a, _, rfl, DGet.k (k := Sum.inr _) h1, q⟩)), fun q => .inr (.inr (.inl ⟨a, _, rfl, DGet.k (k := Sum.inr _) h1, q⟩))⟩
    · rename_i h
      obtain ⟨ws, h1, _, h2⟩ := rp.dct_at h ha
      rw [qx.int_inv]
      have e := Option.some.inj e
      rw [keys_any _ h2] at e
      subst e
      exact ⟨fun q => .inr (.inr (.inl ⟨a, _, rfl, DGet.k (k := Sum.inl _) h1, q⟩)), fun q => .inr (.inr (.inl ⟨a, _, rfl, DGet.k (k := Sum.inl _) h1, q⟩))⟩
    · cases e
  · obtain ⟨a, vs, ey, h1, h2, h3⟩ := qy.tup_inv
    exact seq ey (.inr h1) h3 e
  · obtain ⟨a, vs, ey, h1, h2, h3, h4⟩ := qy.lst_inv
    exact seqL ey h1 h4 e
  · cases e
theorem cmpD_rd {Q : VK} {op : Cop} (rp : Rep K ρ M H) (qx : RD K H (Al ρ M) ρ dx x) (qy : RD K H (Al ρ M) ρ dy y) (e : cmpD M op dx dy = some b) (q : Q (.bl b) H) : rCmpZ K op x y H Q := by
  have inv : ∀ {o : Option Bool}, o.map (!·) = some b → ∃ c, o = some c ∧ b = !c := by
    intro o h
    cases o with
    | none => cases h
    | some c => exact ⟨c, rfl, (Option.some.inj h).symm⟩
  unfold cmpD at e
  split at e
  · exact (eqD_rd rp qx qy e).1 q
  · obtain ⟨c, h, rfl⟩ := inv e
    exact (eqD_rd rp qx qy h).2 q
  · rw [qx.int_inv, qy.int_inv]; cases Option.some.inj e; exact .inl ⟨_, _, rfl, rfl, q⟩
  · rw [qx.int_inv, qy.int_inv]; cases Option.some.inj e; exact ⟨_, _, rfl, rfl, q⟩
  · rw [qx.int_inv, qy.int_inv]; cases Option.some.inj e; exact ⟨_, _, rfl, rfl, q⟩
  · rw [qx.int_inv, qy.int_inv]; cases Option.some.inj e; exact ⟨_, _, rfl, rfl, q⟩
  · rw [qx.str_inv, qy.str_inv]; cases Option.some.inj e; exact .inr ⟨_, _, rfl, rfl, q⟩
  · exact (inD_rd rp qx qy e).1 q
  · obtain ⟨c, h, rfl⟩ := inv e
    exact (inD_rd rp qx qy h).2 q
  · cases e
end
end Z


/-! Z4: built-in calls, places, slices by values. -/
namespace Z
open PySem L2 PySem.Spec PyProof.Rows

/-! ### texts in order -/
theorem ltCps_iff : ∀ a b : List Nat, ltCps a b = decide (a < b)
  | [], [] => by simp [ltCps]
  | [], _ :: _ => by simp [ltCps]
  | _ :: _, [] => by simp [ltCps]
  | a :: r, b :: t => by
    unfold ltCps
    rw [ltCps_iff r t, Bool.eq_iff_iff]
    simp [List.cons_lt_cons_iff]
theorem ltStr_cps (x y : Str) : ltStr x y = ltCps x.cps.toList y.cps.toList := (ltCps_iff _ _).symm
theorem ltStr_irr (x : Str) : ltStr x x = false := by
  unfold ltStr; exact decide_eq_false (List.lt_irrefl _)
theorem ltStr_trans {x y z : Str} (h : ltStr x y = true) (h2 : ltStr y z = true) : ltStr x z = true := by
  unfold ltStr at *
  exact decide_eq_true (List.lt_trans (of_decide_eq_true h) (of_decide_eq_true h2))
theorem str_ext {x y : Str} (h : x.cps.toList = y.cps.toList) : x = y := by
  cases x; cases y; simp only [Str.mk.injEq]; exact Array.toList_inj.mp h
theorem ltStr_tri {x y : Str} (h : ltStr x y = false) (h2 : ltStr y x = false) : x = y := by
  unfold ltStr at *
  have h := of_decide_eq_false h
  have h2 := of_decide_eq_false h2
  exact str_ext (List.le_antisymm (List.not_lt.mp h2) (List.not_lt.mp h))
theorem ltStr_asym {x y : Str} (h : ltStr x y = true) : ltStr y x = false := by
  cases e : ltStr y x with
  | false => rfl
  | true => have := ltStr_trans h e; rw [ltStr_irr] at this; cases this
abbrev LeS (x y : Str) : Prop := ltStr y x = false
theorem leS_trans {x y z : Str} (h : LeS x y) (h2 : LeS y z) : LeS x z := by
  cases e : ltStr z x with
  | false => exact e
  | true =>
    cases e2 : ltStr x y with
    | true => have := ltStr_trans e e2; rw [h2] at this; cases this
    | false => have := ltStr_tri e2 h; subst this; rw [h2] at e; cases e
theorem insStr_perm (x : Str) : ∀ l : List Str, (insStr x l).Perm (x :: l)
  | [] => .refl _
  | y :: r => by
    unfold insStr
    split
    · exact ((insStr_perm x r).cons y).trans (List.Perm.swap x y r)
    · exact .refl _
theorem sortStr_perm : ∀ l : List Str, (sortStr l).Perm l
  | [] => .refl _
  | x :: r => (insStr_perm x (sortStr r)).trans ((sortStr_perm r).cons x)
theorem insStr_sorted (x : Str) : ∀ {l : List Str}, l.Pairwise LeS → (insStr x l).Pairwise LeS
  | [], _ => List.pairwise_singleton _ _
  | y :: r, h => by
    obtain ⟨h1, h2⟩ := List.pairwise_cons.mp h
    unfold insStr
    split
    · rename_i e
      refine List.pairwise_cons.mpr ⟨fun z hz => ?_, insStr_sorted x h2⟩
      rcases List.mem_cons.mp ((insStr_perm x r).mem_iff.mp hz) with rfl | hz
      · exact ltStr_asym e
      · exact h1 z hz
    · rename_i e
      have e : LeS x y := by simpa using e
      refine List.pairwise_cons.mpr ⟨fun z hz => ?_, h⟩
      rcases List.mem_cons.mp hz with rfl | hz
      · exact e
      · exact leS_trans e (h1 z hz)
theorem sortStr_sorted : ∀ l : List Str, (sortStr l).Pairwise LeS
  | [] => .nil
  | x :: r => insStr_sorted x (sortStr_sorted r)
theorem pairwise_of_sortedS : ∀ {l : List Str}, sortedS l = true → l.Pairwise LeS := by
  have key : ∀ (r : List Str) (p : Str), risingS p r = true → (p :: r).Pairwise LeS := by
    intro r
    induction r with
    | nil => intro p _; exact List.pairwise_singleton _ _
    | cons x r ih =>
      intro p h
      unfold risingS at h
      rw [Bool.and_eq_true] at h
      have h1 : LeS p x := by rw [LeS, ltStr_cps]; simpa using h.1
      have h2 := ih x h.2
      refine List.pairwise_cons.mpr ⟨fun z hz => ?_, h2⟩
      rcases List.mem_cons.mp hz with rfl | hz
      · exact h1
      · exact leS_trans h1 ((List.pairwise_cons.mp h2).1 z hz)
  intro l h
  cases l with
  | nil => exact .nil
  | cons x r => exact key r x h
theorem sorted_one : ∀ {l m : List Str}, l.Pairwise LeS → m.Pairwise LeS → l.Perm m → l = m
  | [], m, _, _, p => by simpa using p.symm
  | x :: l, [], _, _, p => by simpa using p
  | x :: l, y :: m, h1, h2, p => by
    obtain ⟨a1, a2⟩ := List.pairwise_cons.mp h1
    obtain ⟨b1, b2⟩ := List.pairwise_cons.mp h2
    have e : x = y := by
      have hx : x ∈ y :: m := p.mem_iff.mp List.mem_cons_self
      have hy : y ∈ x :: l := p.mem_iff.mpr List.mem_cons_self
      rcases List.mem_cons.mp hx with rfl | hx
      · rfl
      · rcases List.mem_cons.mp hy with rfl | hy
        · rfl
        · exact ltStr_tri (b1 x hx) (a1 y hy)
    subst e
    rw [sorted_one a2 b2 (List.Perm.cons_inv p)]
theorem sortStr_one {xs ys : List Str} (p : ys.Perm xs) (h : sortedS ys = true) : ys = sortStr xs :=
  sorted_one (pairwise_of_sortedS h) (sortStr_sorted xs) (p.trans (sortStr_perm xs).symm)

/-! ### rows of one kind -/
section
variable {K : PySem.W.Frag} {H : Hp} {al : Addr → Prop} {ρ : Pl}
theorem strs_rd : ∀ {ds : List D} {vs : List V} {bs : List Str}, RDs K H al ρ ds vs → strsD ds = some bs → vs = bs.map V.str
  | [], _, _, .nil, e => by cases e; rfl
  | .str i :: r, _, bs, .cons q t, e => by
    unfold strsD at e
    cases h : strsD r with
    | none => rw [h] at e; cases e
    | some cs => rw [h] at e; cases e; rw [List.map_cons, q.str_inv, strs_rd t h]
  | .non :: r, _, _, _, e => by cases e
  | .bl _ :: r, _, _, _, e => by cases e
  | .int _ :: r, _, _, _, e => by cases e
  | .tup _ :: r, _, _, _, e => by cases e
  | .lst _ :: r, _, _, _, e => by cases e
  | .scr _ :: r, _, _, _, e => by cases e
  | .loc _ :: r, _, _, _, e => by cases e
  | .pr _ :: r, _, _, _, e => by cases e
theorem ints_rd : ∀ {ds : List D} {vs : List V} {bs : List Int}, RDs K H al ρ ds vs → intsD ds = some bs → vs = bs.map V.int
  | [], _, _, .nil, e => by cases e; rfl
  | .int i :: r, _, bs, .cons q t, e => by
    unfold intsD at e
    cases h : intsD r with
    | none => rw [h] at e; cases e
    | some cs => rw [h] at e; cases e; rw [List.map_cons, q.int_inv, ints_rd t h]
  | .non :: r, _, _, _, e => by cases e
  | .bl _ :: r, _, _, _, e => by cases e
  | .str _ :: r, _, _, _, e => by cases e
  | .tup _ :: r, _, _, _, e => by cases e
  | .lst _ :: r, _, _, _, e => by cases e
  | .scr _ :: r, _, _, _, e => by cases e
  | .loc _ :: r, _, _, _, e => by cases e
  | .pr _ :: r, _, _, _, e => by cases e
theorem bools_rd : ∀ {ds : List D} {vs : List V} {bs : List Bool}, RDs K H al ρ ds vs → boolsD ds = some bs → vs = bs.map V.bl
  | [], _, _, .nil, e => by cases e; rfl
  | .bl i :: r, _, bs, .cons q t, e => by
    unfold boolsD at e
    cases h : boolsD r with
    | none => rw [h] at e; cases e
    | some cs => rw [h] at e; cases e; rw [List.map_cons, q.bl_inv, bools_rd t h]
  | .non :: r, _, _, _, e => by cases e
  | .int _ :: r, _, _, _, e => by cases e
  | .str _ :: r, _, _, _, e => by cases e
  | .tup _ :: r, _, _, _, e => by cases e
  | .lst _ :: r, _, _, _, e => by cases e
  | .scr _ :: r, _, _, _, e => by cases e
  | .loc _ :: r, _, _, _, e => by cases e
  | .pr _ :: r, _, _, _, e => by cases e
theorem rds_strs : ∀ bs : List Str, RDs K H al ρ (bs.map D.str) (bs.map V.str)
  | [] => .nil
  | b :: r => .cons (.str b) (rds_strs r)
theorem rd_key (k : Key) : RD K H al ρ (keyD k) (kV k) := by
  cases k with
  | inl i => exact .int i
  | inr x => exact .str x
theorem rds_keys : ∀ {kvs : List (Key × D)} {ws : List (Key × V)}, RKs K H al ρ kvs ws → RDs K H al ρ (kvs.map fun kv => keyD kv.1) (ws.map fun kv => kV kv.1)
  | _, _, .nil => .nil
  | _, _, .cons (k := k) q r => .cons (rd_key k) (rds_keys r)
theorem keys_same : ∀ {kvs : List (Key × D)} {ws : List (Key × V)}, RKs K H al ρ kvs ws → ws.map (·.1) = kvs.map (·.1)
  | _, _, .nil => rfl
  | _, _, .cons q r => by rw [List.map_cons, List.map_cons, keys_same r]
theorem keys_strs : ∀ {kvs : List (Key × D)} {bs : List Str}, strsD (kvs.map fun kv => keyD kv.1) = some bs → kvs.map (·.1) = bs.map Sum.inr
  | [], _, e => by cases e; rfl
  | (.inl i, d) :: r, _, e => by cases e
  | (.inr i, d) :: r, bs, e => by
    have e : (strsD (r.map fun kv => keyD kv.1)).map (i :: ·) = some bs := e
    cases h : strsD (r.map fun kv => keyD kv.1) with
    | none => rw [h] at e; cases e
    | some cs => rw [h] at e; cases e; rw [List.map_cons, List.map_cons, keys_strs h]
theorem strsD_len : ∀ {ds : List D} {bs : List Str}, strsD ds = some bs → bs.length = ds.length
  | [], _, e => by cases e; rfl
  | .str i :: r, bs, e => by
    unfold strsD at e
    cases h : strsD r with
    | none => rw [h] at e; cases e
    | some cs => rw [h] at e; cases e; rw [List.length_cons, List.length_cons, strsD_len h]
  | .non :: r, _, e => by cases e
  | .bl _ :: r, _, e => by cases e
  | .int _ :: r, _, e => by cases e
  | .tup _ :: r, _, e => by cases e
  | .lst _ :: r, _, e => by cases e
  | .scr _ :: r, _, e => by cases e
  | .loc _ :: r, _, e => by cases e
  | .pr _ :: r, _, e => by cases e
end
/-! ### a new list, as a value or not -/
section
variable {K : PySem.W.Frag} {ca : String → Addr} {W : WX} {σ : L2.St} {ρ : Pl} {M : Sto} {H : Hp} {Q : VK} {m : Bool} {xs : List D} {vs : List V}
theorem newList_rd (rp : Rep K ρ M H) (q : RDs K H (Al ρ M) ρ xs vs) (z : vs.length ≤ sizeLine) (f : Fi K ca (rDD K) W σ ρ M H (newList m xs M) Q) (p : Addr) (hp : H p = none) : Q (.ref p) (upd H p (.lst vs)) := by
  unfold newList at f
  cases m with
  | true =>
    obtain ⟨r1, x1, e1⟩ := rp.newL hp z q
    exact f _ _ _ r1 x1 (.loc e1)
  | false =>
    obtain ⟨r1, x1, q1⟩ := rp.newV hp z q
    exact f _ _ _ r1 x1 q1
theorem asSeq_rd {d : D} {v : V} (rp : Rep K ρ M H) (q : RD K H (Al ρ M) ρ d v) (e : asSeq M d = some xs) : ∃ a vs, v = .ref a ∧ vs.length ≤ sizeLine ∧ RDs K H (Al ρ M) ρ xs vs ∧ ((SqL K H a vs ∧ ∀ ys, d ≠ .tup ys) ∨ (PlT K H a vs ∧ d = .tup xs)) := by
  unfold asSeq at e
  split at e
  · cases e
    obtain ⟨a, vs, h1, h2, h3, h4⟩ := q.tup_pl
    exact ⟨a, vs, h1, h3, h4, .inr ⟨h2, rfl⟩⟩
  · cases e
    obtain ⟨a, vs, h1, h2, h3, h4, h5⟩ := q.lst_inv
    exact ⟨a, vs, h1, h4, h5, .inl ⟨.inl (.inl h2), fun _ z => nomatch z⟩⟩
  · split at e
    · rename_i h
      cases e
      obtain ⟨a, h1, h2⟩ := q.loc_inv
      obtain ⟨vs, h3, z, h4⟩ := rp.lst_at h h2
      exact ⟨a, vs, h1, z, h4, .inl ⟨.inl (.inl h3), fun _ z => nomatch z⟩⟩
    · cases e
  · cases e
theorem RDs.one {d : D} {vs : List V} {H : Hp} {al : Addr → Prop} {ρ : Pl} (h : RDs K H al ρ [d] vs) : ∃ v, vs = [v] ∧ RD K H al ρ d v := by
  cases h with
  | cons q r => cases r; exact ⟨_, rfl, q⟩
theorem RDs.two {d e : D} {vs : List V} {H : Hp} {al : Addr → Prop} {ρ : Pl} (h : RDs K H al ρ [d, e] vs) : ∃ v w, vs = [v, w] ∧ RD K H al ρ d v ∧ RD K H al ρ e w := by
  cases h with
  | cons q r => cases r with | cons q2 r => cases r; exact ⟨_, _, rfl, q, q2⟩
end
end Z


/-! Zx: rules that the library lacks: plain tuples, dict(tuple of pairs), sorted(set(texts)). -/
namespace Z
open PySem L2 PySem.Spec PyProof.Rows
section
variable {X : Cx}
/-- a tuple laid, known as the plain object that it is -/
theorem pe_tupF {es : List Expr} {t : TA} {k : Nat} {pos : Pos} (h : PA X es t) : PE X (.Tuple es k pos) (fun σ H Q => t σ H fun xs H1 => xs.length ≤ sizeLine ∧ ∀ (p : Addr) (o : Obj), o.dict = none → H1 p = none → Q (.ref p) (upd H1 p (.frz o (.tup xs)))) := by
  constructor
  intro pins s σ H Q I hq
  refine wpAny_Tuple_spliced (thn (h.run pos pins s σ H _ I hq) ?_)
  rintro us s1 ⟨xs, H1, I1, r, z, q⟩
  refine ⟨by rw [← r.length]; exact z, .ref s1.heap.objs.size, upd H1 s1.heap.objs.size (.frz { cls := .type "tuple", data := .seq us.toArray } (.tup xs)), ?_, rfl, q _ _ rfl (I1.hok.fresh (Nat.le_refl _))⟩
  refine I1.laid (t' := s1.toks) (fun b u e => Heap.get?_push_of_some _ e) (Nat.le_refl _) ⟨Heap.get?_push_size _ rfl, z, us, r, ?_⟩
  exact ⟨_, Heap.get?_push_size _ rfl, rfl, _, rfl⟩
/-- tuple(xs) -/
theorem call_tupleF : CallR X (.type "tuple") (fun xs H Q => ∃ p ys, xs = [.ref p] ∧ ((SqL X.K H p ys ∧ ∀ (l : Addr) (o : Obj), o.dict = none → H l = none → Q (.ref l) (upd H l (.frz o (.tup ys)))) ∨ (SqT X.K H p ys ∧ Q (.ref p) H))) := by
  rintro pins s σ H xs us Q I r ⟨p, ys, rfl, h⟩
  obtain ⟨u, rfl, rx⟩ := vals1 r
  cases rx
  rcases h with ⟨hq, q⟩ | ⟨hq, q⟩
  · obtain ⟨its, r', pl, hz⟩ := I.list hq
    have hlen := r'.length
    refine call_tuple_list pl.isList ?_ (by rw [List.size_toArray]; omega)
    intro h' kp
    have I1 : Inv X pins σ H { s with heap := h' } := I.kept (t' := s.toks) kp
    refine ⟨.ref h'.objs.size, upd H h'.objs.size (.frz { cls := .type "tuple", data := .seq its.toArray } (.tup ys)), ?_, rfl, q _ _ rfl (I1.hok.fresh (Nat.le_refl _))⟩
    exact I1.laid (t' := s.toks) (fun b o e => Heap.get?_push_of_some _ e) (Nat.le_refl _) ⟨Heap.get?_push_size _ rfl, hz, its, r', IsTup.new _ _⟩
  · obtain ⟨its, r', pl, hz⟩ := I.tuple hq
    exact call_tuple_same pl ⟨.ref p, H, I, rfl, q⟩
/-- pairs as the heap has them -/
theorem pairs_at {pins : List (Addr × Obj)} {σ : L2.St} {H : Hp} {s : Shared} (I : Inv X pins σ H s) : ∀ {ps : List Addr} {kvs : List (Key × V)}, Paired (fun p kv => SqT X.K H p [kV kv.1, kv.2]) ps kvs →
    ∃ (prs : List (Key × Value)) (pv : List (Value × Value)), KV kvs prs ∧ prs.length = ps.length ∧ pv.length = ps.length ∧ ∀ (j : Nat) (k v : Value), pv[j]? = some (k, v) → ∃ (b : Addr) (kk : Key), ps[j]? = some b ∧ IsTup s.heap b #[k, v] ∧ prs[j]? = some (kk, v) ∧ keyIs kk k = true
  | _, _, .nil => ⟨[], [], .nil, rfl, rfl, fun j k v e => by simp at e⟩
  | _, _, .cons (a := p) (b := kv) h t => by
    obtain ⟨prs, pv, r, hl, hl2, hp⟩ := pairs_at I t
    obtain ⟨its, rv, ht, _⟩ := I.tuple h
    obtain ⟨u, y, rfl, ru, ry⟩ := vals2 rv
    refine ⟨(kv.1, y) :: prs, (u, y) :: pv, .cons ⟨rfl, ry⟩ r, by simp [hl], by simp [hl2], fun j k v e => ?_⟩
    cases j with
    | zero =>
      simp at e
      obtain ⟨rfl, rfl⟩ := e
      exact ⟨p, kv.1, rfl, ht, rfl, kV_is (P := X.prog) (w := X.w) ru⟩
    | succ j =>
      obtain ⟨b, kk, h1, h2, h3, h4⟩ := hp j k v (by simpa using e)
      exact ⟨b, kk, by simpa using h1, h2, by simpa using h3, h4⟩
/-- dict(t) of a plain tuple of pairs -/
theorem call_dictTu (hcalm : X.calm = true) : CallR X (.type "dict") (fun xs H Q => ∃ (a : Addr) (ps : List Addr) (kvs : List (Key × V)), xs = [.ref a] ∧ PlT X.K H a (ps.map V.ref) ∧ Paired (fun p kv => SqT X.K H p [kV kv.1, kv.2]) ps kvs ∧
    ∀ p, H p = none → Q (.ref p) (upd H p (.dK (mergeK [] kvs)))) := by
  rintro pins s σ H xs us Q I r ⟨a, ps, kvs, rfl, hq, hp, q⟩
  obtain ⟨u, rfl, rx⟩ := vals1 r
  cases rx
  obtain ⟨prs, pv, rel, hl, hl2, hpr⟩ := pairs_at I hp
  have hz0 : SqT X.K H a (ps.map V.ref) := by
    rcases hq with ⟨o, h1, _⟩ | ⟨o, its, n, h1, h2, _, h3⟩
    · exact .inl (.inr ⟨o, h1⟩)
    · exact .inr ⟨o, its, n, h1, h2, h3⟩
  obtain ⟨its, rv, pl, hz⟩ := I.tuple hz0
  have ei := refs_at rv
  subst ei
  rw [List.length_map] at hz
  have pls : PlainSeq "tuple" s.heap a (ps.map Value.ref).toArray := by
    rcases hq with ⟨o, h1, h2⟩ | ⟨o, its, n, h1, h2, h4, h3, h5, h6⟩
    · obtain ⟨g1, _, its2, rv2, o2, g2, g3, n, g4⟩ := (show ObjOk X.prog X.w H s.heap a (.frz o (.tup (ps.map V.ref))) from I.hok a _ h1)
      rw [g1] at g2
      cases g2
      rw [refs_at rv2] at g4
      exact ⟨o, n, g1, g3, h2, g4⟩
    · have g := I.kIn a o h1
      have e2 := refs_at h6
      refine ⟨o, n, g, h2, h4, ?_⟩
      rw [h3, ← e2]
  have PA' := PairArg.tuple (prog := X.prog) (w := X.w) a (ps.map Value.ref).toArray (fun j => ps.getD j 0) pv
  refine PySem.call_dict_pairs (knd := mixKind X.prog X.w) (kvs := prs) PA' (I.ok.hd hcalm) ⟨pls, by simp [hl2], fun j k v e => ?_⟩ ⟨by rw [hl, hl2], fun i k v e => ?_⟩ (by rw [hl2]; exact hz) fun h' tk hd' kp => ?_
  · obtain ⟨b, kk, h1, h2, h3, h4⟩ := hpr j k v e
    refine ⟨by simp [h1], .inl ?_⟩
    have e3 : ps.getD j 0 = b := by rw [List.getD_eq_getElem?_getD, h1]; rfl
    show s.heap.IsTuple (ps.getD j 0) #[k, v]
    rw [e3]
    exact h2
  · obtain ⟨b, kk, h1, h2, h3, h4⟩ := hpr i k v e
    exact ⟨kk, h3, h4⟩
  · have hm : (s.heap.objs.size == sysModules) = false := beq_eq_false_iff_ne.mpr (Nat.ne_of_gt I.big)
    have hlen : (mergeK [] kvs).length ≤ sizeLine := by
      have h1 := length_mergeK kvs []
      rw [List.length_nil, Nat.zero_add, rel.length, hl] at h1
      omega
    have ok : ObjOk X.prog X.w (upd H s.heap.objs.size (.dK (mergeK [] kvs))) h' s.heap.objs.size (.dK (mergeK [] kvs)) := ⟨hlen, hm, merged [] prs, KV.merge rel .nil, hd'⟩
    exact ⟨.ref s.heap.objs.size, _, I.laid (t' := tk) (fun b o e => kp b o (by simp) e) (Nat.le_refl _) ok, rfl, q _ (I.hok.fresh (Nat.le_refl _))⟩
/-! ### sets of texts -/
/-- the set of texts at a -/
def SetTO (w : World) (a : Addr) (S : Str → Bool) : HO := .ext fun h => ∃ n, n < 2001 ∧ ZT.SetT w h a S n
theorem setTO_new {w : World} {P : Program} {H : Hp} {h : Heap} {a : Addr} {S : Str → Bool} {n : Nat} (hn : n < 2001) (R : ZT.SetT w h a S n) : ObjOk P w H h a (SetTO w a S) := by
  have ⟨o, _, _, _, ho, _⟩ := R
  exact ⟨⟨n, hn, R⟩, ⟨o, ho⟩, fun h1 h2 ⟨m, hm, p⟩ k => ⟨m, hm, p.at k⟩⟩
/-- set(xs) of few texts -/
def rSetL' (X : Cx) : List V → Hp → VK → Prop := fun xs H Q => ∃ (a : Addr) (bs : List Str), xs = [.ref a] ∧ SqL X.K H a (bs.map V.str) ∧ bs.length < 2000 ∧ ∀ p, H p = none → Q (.ref p) (upd H p (SetTO X.w p fun j => decide (j ∈ bs)))
theorem call_setL (hc : X.calm = true) : CallR X (.type "set") (rSetL' X) := by
  rintro pins s σ H xs us Q I r ⟨a, bs, rfl, hq, hb, q⟩
  obtain ⟨u, rfl, rx⟩ := vals1 r
  cases rx
  obtain ⟨its, rv, pl, hz⟩ := I.list hq
  have hsb : 2001 < scanBound := by decide +kernel
  refine ZT.call_set_lstS (items := its.toArray) bs (I.ok.hd hc) pl.isList (by simpa using rv.strs) (by omega) fun h' tk c R hcl kp => ?_
  exact ⟨.ref s.heap.objs.size, _, I.laid (t' := tk) kp (Nat.le_refl _) (setTO_new (by omega) R), rfl, q _ (I.hok.fresh (Nat.le_refl _))⟩
theorem mem_dedup {y : Str} : ∀ {l : List Str}, y ∈ dedupStr l ↔ y ∈ l
  | [] => by rw [dedupStr]
  | x :: r => by
    rw [dedupStr]
    split
    · rename_i h
      rw [mem_dedup, List.mem_cons]
      exact ⟨.inr, fun z => z.elim (fun e => e ▸ h) id⟩
    · rw [List.mem_cons, List.mem_cons, mem_dedup]
theorem nodup_dedup : ∀ l : List Str, (dedupStr l).Nodup
  | [] => by rw [dedupStr]; exact .nil
  | x :: r => by
    rw [dedupStr]
    split
    · exact nodup_dedup r
    · rename_i h
      exact List.nodup_cons.mpr ⟨fun z => h (mem_dedup.mp z), nodup_dedup r⟩
/-- sorted(found) -/
def rSortT' (X : Cx) : List V → Hp → VK → Prop := fun xs H Q => ∃ (a : Addr) (bs : List Str), xs = [.ref a] ∧ H a = some (SetTO X.w a fun j => decide (j ∈ bs)) ∧ bs.length < 2001 ∧ ∀ p, H p = none → Q (.ref p) (upd H p (.lst ((sortStr (dedupStr bs)).map V.str)))
theorem call_sortedSetT (hc : X.calm = true) : CallR X (.builtin "sorted") (rSortT' X) := by
  rintro pins s σ H xs us Q I r ⟨a, bs, rfl, ha, hb, q⟩
  obtain ⟨u, rfl, rx⟩ := vals1 r
  cases rx
  obtain ⟨⟨n, hn, R⟩, _, _⟩ := (show ObjOk X.prog X.w H s.heap a (SetTO X.w a fun j => decide (j ∈ bs)) from I.hok a _ ha)
  refine ZT.sorted_setT2 R (I.ok.hd hc) hn fun s' p out c ns kp g o hp hg hi hs nd hm => ?_
  have e : ns = sortStr (dedupStr bs) := sortStr_one ((List.perm_ext_iff_of_nodup nd (nodup_dedup bs)).mpr fun k => by rw [hm k, decide_eq_true_eq, mem_dedup]) hs
  have hlen : (ns.map V.str).length ≤ sizeLine := by
    have h4 : ∀ l : List Str, (dedupStr l).length ≤ l.length := by
      intro l
      induction l with
      | nil => exact Nat.le_refl _
      | cons y r ih => rw [dedupStr]; split <;> simp only [List.length_cons] <;> omega
    have h5 := h4 bs
    rw [List.length_map, e, (sortStr_perm _).length_eq, sizeLine_eq]
    omega
  have hf := I.hok.fresh hp
  have J : Inv X pins σ (upd H p (.lst (ns.map V.str))) { s with heap := s'.heap, gens := s'.gens, drawn := s'.drawn, toks := s'.toks } := by
    refine I.call (ch := []) (Un.laid kp hp hf) ?_ ?_ ?_
    · exact I.hok.laid kp hp ⟨hlen, out.toList, c, vals_of_strs hi, hg⟩
    · rw [g]; exact I.bare
    · intro b hb; cases hb
  have e2 : s' = { s with heap := s'.heap, gens := s'.gens, drawn := s'.drawn, toks := s'.toks } := by
    obtain ⟨h', g2, d', tk', os'⟩ := s'
    cases o
    rfl
  rw [e2]
  exact ⟨.ref p, _, J, rfl, by rw [e]; exact q p hf⟩
/-- sorted(set(xs)) of a list of texts -/
theorem pe_sset {a : Expr} {ta : TE} {p p2 q pos : Pos} (hc : X.calm = true) (hg : Gl X "sorted") (hm : X.mg "sorted" = none) (hg2 : Gl X "set") (hm2 : X.mg "set" = none) (ha : PE X a ta) (hs : starEach [a] X.env = (false, eval a X.env) :: starEach [] X.env) :
    PE X (.Call (.Name "sorted" p) [.Call (.Name "set" p2) [a] [] q] [] pos) (fun σ H Q => ta σ H fun x H1 => rSetL' X [x] H1 fun y H2 => rSortT' X [y] H2 Q) :=
  pe_callB (p := p) (pos := pos) (call_sortedSetT hc) hg hm rfl (pa_cons (pe_callTy (p := p2) (pos := q) (call_setL hc) hg2 hm2 rfl (pa_cons ha pa_nil hs) (by decide) (by decide) hs rfl) pa_nil) (by decide) (by decide)
theorem sset_go {H1 : Hp} {x : V} {Q : VK} {l : Addr} {bs : List Str} (hx : x = .ref l) (hs : SqL X.K H1 l (bs.map V.str)) (hl : bs.length < 2000)
    (h : ∀ (H2 : Hp) (r : Addr), (∀ b o, H1 b = some o → H2 b = some o) → H2 r = none → Q (.ref r) (upd H2 r (.lst ((sortStr (dedupStr bs)).map V.str)))) : rSetL' X [x] H1 fun y H2 => rSortT' X [y] H2 Q := by
  subst hx
  refine ⟨l, bs, rfl, hs, hl, fun p hp => ⟨p, bs, rfl, upd_same, by omega, fun r hr => h _ r (fun b o hb => ?_) hr⟩⟩
  rw [upd_ne (ne_of_none hb hp)]
  exact hb
end
end Z


/-! Zy: dict(zip(keys, values)). -/
namespace Z
open PySem L2 PySem.Spec PyProof.Rows
section
variable {X : Cx}
/-- keys beside what stands for them, as the heap has them -/
theorem zip_at (Pg : Program) (wd : World) : ∀ {ks : List Key} {ys : List V} {us ws : List Value}, Vals (ks.map kV) us → Vals ys ws →
    ∃ prs : List (Key × Value), KV (ks.zip ys) prs ∧ prs.length = min us.length ws.length ∧ ∀ (i : Nat) (k v : Value), us[i]? = some k → ws[i]? = some v → ∃ kk, prs[i]? = some (kk, v) ∧ keyIs kk k = true
  | [], ys, us, ws, r1, r2 => by
    cases r1
    exact ⟨[], .nil, by simp, fun i k v e => by simp at e⟩
  | kk :: ks, [], us, ws, r1, r2 => by
    cases r2
    exact ⟨[], .nil, by simp, fun i k v _ e => by simp at e⟩
  | kk :: ks, y :: ys, us, ws, r1, r2 => by
    rw [List.map_cons] at r1
    cases r1 with
    | cons h t =>
      cases r2 with
      | @cons _ w0 _ ws0 h2 t2 =>
        obtain ⟨prs, a1, a2, a3⟩ := zip_at Pg wd t t2
        refine ⟨(kk, w0) :: prs, .cons ⟨rfl, h2⟩ a1, by simp [a2], fun i k v e e2 => ?_⟩
        cases i with
        | zero =>
          simp at e e2
          subst e e2
          exact ⟨kk, rfl, kV_is (P := Pg) (w := wd) h⟩
        | succ i =>
          obtain ⟨k2, b1, b2⟩ := a3 i k v (by simpa using e) (by simpa using e2)
          exact ⟨k2, by simpa using b1, b2⟩
def rDz (K : PySem.W.Frag) : List V → Hp → VK → Prop := fun vs H Q => ∃ (a b : Addr) (ks : List Key) (ys : List V), vs = [.ref a, .ref b] ∧ SqL K H a (ks.map kV) ∧ SqL K H b ys ∧ ∀ p, H p = none → Q (.ref p) (upd H p (.dK (mergeK [] (ks.zip ys))))
theorem pe_dictzip {e e2 : Expr} {ta : TA} {p p2 q pos : Pos} (hc : X.calm = true) (hg : Gl X "dict") (hm : X.mg "dict" = none) (hg2 : Gl X "zip") (hm2 : X.mg "zip" = none) (ha : PA X [e, e2] ta)
    (hs : starEach [e, e2] X.env = (false, eval e X.env) :: starEach [e2] X.env) (hpl : (backTo q (starEach [e2] X.env)).any (·.1) = false) :
    PE X (.Call (.Name "dict" p) [.Call (.Name "zip" p2) [e, e2] [] q] [] pos) (fun σ H Q => ta σ H fun vs H1 => rDz X.K vs H1 Q) := by
  refine ⟨fun pins s σ H Q I h => ?_⟩
  refine wpAny_Call_Name_kw (ld_blt I hg hm rfl (PyProof.Rows.callWith_type1 ?_ (by rfl) (by rfl)) (by decide) (by decide))
  show wpAny _ _ (spliced ((false, eval (.Call (.Name "zip" p2) [e, e2] [] q) X.env) :: [])) _ _ s
  refine Calls.spliced_cons ?_
  refine wpAny_Call_Name_kw (ld_blt I hg2 hm2 rfl (PyProof.Rows.callWith_type1 (thn (ha.run q pins s σ H _ I h) fun us s1 ⟨vs, H1, I1, r1, q1⟩ => ?_) hs hpl) (by decide) (by decide))
  obtain ⟨a, b, ks, ys, rfl, hqx, hqy, qq⟩ := q1
  cases r1 with
  | cons r rr =>
    cases rr with
    | cons r' rr =>
      cases rr
      cases r
      cases r'
      obtain ⟨its, rv, pl1, hz1⟩ := I1.list hqx
      obtain ⟨its2, rv2, pl2, hz2⟩ := I1.list hqy
      have la : a < s1.heap.objs.size := pl1.lt
      have lb : b < s1.heap.objs.size := pl2.lt
      refine call_zip_2 pl1.isList pl2.isList fun h' hz hTI hTO h1 h2 hsz hk => Calls.spliced_nil ?_
      obtain ⟨prs, kv, kl, kr⟩ := zip_at X.prog X.w rv rv2
      have D := PySem.W.ktu_apart s1.heap.objs.size a b la lb
      have P := PairArg.zip (prog := X.prog) (w := X.w) _ _ _ _ _ _ _ D its.toArray its2.toArray
      have hz3 : its.length ≤ sizeLine := by rw [← rv.length]; exact hz1
      refine PySem.call_dict_pairs (s := { s1 with heap := h' }) (knd := mixKind X.prog X.w) (kvs := prs) P (I1.ok.hd hc) ⟨hz, hTI, ⟨_, _, hTO⟩, h1, h2, pl1.isList.at fun o e => hk _ o e, pl2.isList.at fun o e => hk _ o e⟩ ⟨by rw [kl]; simp, fun i k v e => ?_⟩ ?_ fun h2 tk hd' kp => ?_
      · obtain ⟨ea, eb⟩ := e
        exact kr i k v (by simpa using ea) (by simpa using eb)
      · exact Nat.le_trans (Nat.min_le_left _ _) (by simpa using hz3)
      · have hm : (h'.objs.size == sysModules) = false := beq_eq_false_iff_ne.mpr (Nat.ne_of_gt (by have := I1.big; rw [hsz]; exact Nat.lt_of_lt_of_le this (Nat.le_add_right _ _)))
        have hlen : (mergeK [] (ks.zip ys)).length ≤ sizeLine := by
          have h3 := length_mergeK (ks.zip ys) []
          rw [List.length_nil, Nat.zero_add, kv.length, kl] at h3
          have h4 : min its.length its2.length ≤ its.length := Nat.min_le_left _ _
          omega
        have kp2 : ∀ b o, s1.heap.get? b = some o → h2.get? b = some o := fun b o e => by
          have hb := Heap.lt_size e
          refine kp b o (fun hm => ?_) (hk b o e)
          simp only [List.mem_cons, List.not_mem_nil, or_false] at hm
          rcases hm with hm | hm | hm | hm <;> (rw [hm] at hb; exact absurd hb (Nat.not_lt.mpr (by omega)))
        have ok : ObjOk X.prog X.w (upd H1 h'.objs.size (.dK (mergeK [] (ks.zip ys)))) h2 h'.objs.size (.dK (mergeK [] (ks.zip ys))) := ⟨hlen, hm, merged [] prs, KV.merge kv .nil, hd'⟩
        have hp : s1.heap.objs.size ≤ h'.objs.size := by omega
        exact ⟨.ref h'.objs.size, _, I1.laid (t' := tk) kp2 hp ok, rfl, qq _ (I1.hok.fresh hp)⟩
end
end Z


/-! Zp: sorted(list of pairs of a text and a number). -/
namespace Z
open PySem L2 PySem.Spec PyProof.Rows
theorem lexS_iff {p q : Str × Int} : lexS p q = true ↔ ltStr p.1 q.1 = true ∨ (p.1 = q.1 ∧ p.2 < q.2) := by
  unfold lexS
  by_cases e : p.1 = q.1
  · rw [if_pos e, decide_eq_true_eq, e, ltStr_irr]
    simp
  · rw [if_neg e]
    simp [e]
theorem lexS_no {p q : Str × Int} : lexS p q = false ↔ ¬ (ltStr p.1 q.1 = true ∨ (p.1 = q.1 ∧ p.2 < q.2)) := by
  rw [← lexS_iff]
  cases lexS p q <;> simp
theorem str_cases (x y : Str) : ltStr x y = true ∨ x = y ∨ ltStr y x = true := by
  cases h1 : ltStr x y with
  | true => exact .inl rfl
  | false =>
    cases h2 : ltStr y x with
    | true => exact .inr (.inr rfl)
    | false => exact .inr (.inl (ltStr_tri h1 h2))
theorem lexS_swo {α : Type} (k : α → Str × Int) : SrtO.Swo fun v u => lexS (k v) (k u) := by
  refine ⟨fun x y h => ?_, fun x y z h1 h2 => ?_⟩
  · rw [lexS_no]
    rintro (h3 | ⟨h3, h4⟩)
    · rcases lexS_iff.mp h with h5 | ⟨h5, h6⟩
      · rw [ltStr_asym h5] at h3; cases h3
      · rw [h5, ltStr_irr] at h3; cases h3
    · rcases lexS_iff.mp h with h5 | ⟨h5, h6⟩
      · rw [h3, ltStr_irr] at h5; cases h5
      · omega
  · rw [lexS_no] at h1 h2 ⊢
    have a1 : ¬ ltStr (k y).1 (k x).1 = true := fun e => h1 (.inl e)
    have a2 : ¬ ltStr (k z).1 (k y).1 = true := fun e => h2 (.inl e)
    have b1 : (k y).1 = (k x).1 → ¬ (k y).2 < (k x).2 := fun e l => h1 (.inr ⟨e, l⟩)
    have b2 : (k z).1 = (k y).1 → ¬ (k z).2 < (k y).2 := fun e l => h2 (.inr ⟨e, l⟩)
    rcases str_cases (k x).1 (k y).1 with c1 | c1 | c1
    · rcases str_cases (k y).1 (k z).1 with c2 | c2 | c2
      · have c3 := ltStr_trans c1 c2
        rintro (d | ⟨d, _⟩)
        · rw [ltStr_asym c3] at d; cases d
        · rw [d, ltStr_irr] at c3; cases c3
      · rw [c2] at c1
        rintro (d | ⟨d, _⟩)
        · rw [ltStr_asym c1] at d; cases d
        · rw [d, ltStr_irr] at c1; cases c1
      · exact absurd c2 a2
    · rcases str_cases (k y).1 (k z).1 with c2 | c2 | c2
      · rw [← c1] at c2
        rintro (d | ⟨d, _⟩)
        · rw [ltStr_asym c2] at d; cases d
        · rw [d, ltStr_irr] at c2; cases c2
      · have e1 := b1 c1.symm
        have e2 := b2 c2.symm
        rintro (d | ⟨_, d⟩)
        · rw [← c2, ← c1, ltStr_irr] at d; cases d
        · omega
      · exact absurd c2 a2
    · exact absurd c1 a1
section
variable {prog : Program} {w : World} {A : Around} {E : Value → Shared → Prop} {s : Shared}
/-- a tuple of a text and a number in the heap -/
def IsSI (h : Heap) (v : Value) (x : Str) (y : Int) : Prop := ∃ (a : Addr) (o : Obj) (t u : Tok) (n : Nat), v = .ref a ∧ h.get? a = some o ∧ o.cls = .type "tuple" ∧ o.data = .seq #[.str x t, .int y u] n
theorem IsSI.stays {h h' : Heap} {v : Value} {x : Str} {y : Int} (p : IsSI h v x y) (k : ∀ b o, h.get? b = some o → o.cls = .type "tuple" → h'.get? b = some o) : IsSI h' v x y := by
  obtain ⟨a, o, t, u, n, e, ho, hc, hd⟩ := p
  exact ⟨a, o, t, u, n, e, k _ _ ho hc, hc, hd⟩
theorem si_firsts {h : Heap} {k : Value → Str × Int} : ∀ {vs : List Value}, (∀ v ∈ vs, IsSI h v (k v).1 (k v).2) → ∃ fs : List Value, PySem.W.KatTups h vs fs ∧ fs.length = vs.length ∧ ∀ f ∈ fs, ∃ x t, f = Value.str x t
  | [], _ => ⟨[], PySem.W.KatTups.nil, rfl, fun _ hm => by simp at hm⟩
  | v :: vs, hp => by
    obtain ⟨fs, g1, g2, g3⟩ := si_firsts (vs := vs) fun v' hm => hp v' (List.mem_cons_of_mem _ hm)
    have hv := hp v List.mem_cons_self
    generalize (k v).1 = x at hv
    generalize (k v).2 = y at hv
    obtain ⟨a, o, t, u, n, rfl, ho, hc, hd⟩ := hv
    refine ⟨.str x t :: fs, PySem.W.KatTups.cons ho hc hd rfl g1, by simp [g2], fun f hm => ?_⟩
    rcases List.mem_cons.mp hm with rfl | hm
    · exact ⟨x, t, rfl⟩
    · exact g3 f hm
theorem si_cmp {vs : List Value} {k : Value → Str × Int} (hp : ∀ v ∈ vs, IsSI s.heap v (k v).1 (k v).2) : SrtO.Cmp prog w A s (tuples' true) (fun p => p.1 ∈ vs) (SrtO.lt2 fun v u => lexS (k v) (k u)) := by
  intro p q hm hm'
  have g1 := hp _ hm
  have g2 := hp _ hm'
  show wpAny (model prog w) A (keyLt' (tuples' true) p.1 q.1) (fun r s' => s' = s ∧ r = lexS (k p.1) (k q.1)) (fun _ _ => False) s
  unfold lexS
  generalize (k p.1).1 = x at g1 ⊢
  generalize (k p.1).2 = y at g1 ⊢
  generalize (k q.1).1 = x' at g2 ⊢
  generalize (k q.1).2 = y' at g2 ⊢
  obtain ⟨a, o, t, u, n, e, ho, hc, hd⟩ := g1
  obtain ⟨a', o', t', u', n', e', ho', hc', hd'⟩ := g2
  rw [e, e']
  refine PySem.W.kat_lt ho hd ho' hd' ?_
  show PySem.W.KatLex prog w A true (decide (2 < 2)) _ [(.str x t, .str x' t'), (.int y u, .int y' u')] 0 s
  refine PySem.W.kat_cons (SeqAt.EqAt.str_str x t x' t' prog w _ _ ?_)
  refine PySem.W.kat_go (fun e1 => ?_) (fun e1 => ?_)
  · have ex : x = x' := by simpa using e1
    rw [if_pos ex]
    refine PySem.W.kat_yes (PySem.W.kat_cons (SeqAt.EqAt.int_int y u y' u' prog w _ _ ?_))
    refine PySem.W.kat_go (fun e2 => ?_) (fun e2 => ?_)
    · have ey : y = y' := by simpa using e2
      exact PySem.W.kat_yes (PySem.W.kat_nil ⟨rfl, by rw [ey]; exact (decide_eq_false (Int.lt_irrefl _)).symm⟩)
    · refine PySem.W.kat_no (PySem.W.kat_one _ _ (PyProof.Rows.lt_int ?_))
      exact (show s = s ∧ decide (y < y') = decide (y < y') from ⟨rfl, rfl⟩)
  · have ex : ¬ x = x' := by simpa using e1
    rw [if_neg ex]
    exact PySem.W.kat_no (oneLt_str ⟨rfl, rfl⟩)
theorem si_sortable {a : Addr} {vs : List Value} {k : Value → Str × Int} (h0 : 0 < vs.length) (hp : ∀ v ∈ vs, IsSI s.heap v (k v).1 (k v).2) (ha : ∀ o, s.heap.get? a = some o → o.cls ≠ .type "tuple") : SrtO.SortableO prog w A s a vs fun v u => lexS (k v) (k u) := by
  intro h' keep
  have hp' : ∀ v ∈ vs, IsSI h' v (k v).1 (k v).2 := fun v hm => (hp v hm).stays fun b o e c => keep b o (fun z => by subst z; exact ha o e c) e
  obtain ⟨fs, g1, g2, g3⟩ := si_firsts hp'
  refine ⟨tuples' true, fun Q E hq => ?_, si_cmp hp'⟩
  refine PySem.W.kat_kind (T := .type "str") g1 (by omega) (fun f hm => ?_) (by rfl) ?_
  · obtain ⟨x, t, rfl⟩ := g3 f hm
    exact PySem.W.Looks.now
  · have e : (Value.type "str" != Value.type "tuple") = true := by decide +kernel
    rw [e]
    exact hq
end
theorem IsSI.one {h : Heap} {v : Value} {x x' : Str} {y y' : Int} (p : IsSI h v x y) (q : IsSI h v x' y') : x = x' ∧ y = y' := by
  obtain ⟨a, o, t, u, n, e, ho, _, hd⟩ := p
  obtain ⟨a', o', t', u', n', e', ho', _, hd'⟩ := q
  rw [e] at e'
  cases e'
  rw [ho] at ho'
  cases ho'
  rw [hd] at hd'
  cases hd'
  exact ⟨rfl, rfl⟩
def rSrtP (K : PySem.W.Frag) : List V → Hp → VK → Prop := fun vs H Q => ∃ (l : Addr) (xs : List V) (ps : List (Str × Int)), vs = [.ref l] ∧ SqL K H l xs ∧ Paired (fun x p => ∃ t, x = V.ref t ∧ SqT K H t [.str p.1, .int p.2]) xs ps ∧
  ∀ (zs : List (V × Str × Int)) (b : Addr), zs.Perm (xs.zip ps) → SrtO.Srtd lexS (zs.map (·.2)) → H b = none → Q (.ref b) (upd H b (.lst (zs.map (·.1))))
section
variable {X : Cx}
open Classical in
noncomputable def siK (h : Heap) (v : Value) : Str × Int := if e : ∃ p : Str × Int, IsSI h v p.1 p.2 then Classical.choose e else ("", 0)
theorem siK_of {h : Heap} {v : Value} {p : Str × Int} (i : IsSI h v p.1 p.2) : siK h v = p := by
  have e : ∃ p : Str × Int, IsSI h v p.1 p.2 := ⟨p, i⟩
  unfold siK
  rw [dif_pos e]
  obtain ⟨a, b⟩ := (Classical.choose_spec e).one i
  exact Prod.ext a b
theorem si_all {pins : List (Addr × Obj)} {s : Shared} {σ : L2.St} {H : Hp} (I : Inv X pins σ H s) : ∀ {xs : List V} {ps : List (Str × Int)} {its : List Value}, Paired (fun x p => ∃ t, x = V.ref t ∧ SqT X.K H t [.str p.1, .int p.2]) xs ps → Vals xs its →
    (∀ v ∈ its, ∃ p : Str × Int, IsSI s.heap v p.1 p.2) ∧ its.map (fun v => (backV v, siK s.heap v)) = xs.zip ps
  | _, _, _, .nil, r => by cases r; exact ⟨(fun _ h => by cases h), rfl⟩
  | _, _, _, .cons (a := x) (b := p) h t, r => by
    cases r with
    | cons rx rr =>
      obtain ⟨g1, g2⟩ := si_all I t rr
      obtain ⟨ad, rfl, hq⟩ := h
      cases rx
      obtain ⟨its2, r2, ht, _⟩ := I.tuple hq
      obtain ⟨u1, u2, rfl, ri, rj⟩ := vals2 r2
      obtain ⟨t1, rfl⟩ := ri
      obtain ⟨t2, rfl⟩ := rj
      obtain ⟨o, ho, hc, n, hd⟩ := ht
      have hi : IsSI s.heap (.ref ad) p.1 p.2 := ⟨ad, o, t1, t2, n, rfl, ho, hc, hd⟩
      refine ⟨fun v hv => ?_, ?_⟩
      · rcases List.mem_cons.mp hv with rfl | hv
        · exact ⟨p, hi⟩
        · exact g1 v hv
      · rw [List.map_cons, List.zip_cons_cons, g2, siK_of hi]
        rfl
theorem cr_srtP : CallR X (.builtin "sorted") (rSrtP X.K) := by
  rintro pins s σ H vs us Q I r ⟨l, xs, ps, rfl, hs, hp, q⟩
  obtain ⟨its, rv, hl, hz⟩ := I.list hs
  rw [Vals.ref1 r]
  obtain ⟨g1, g2⟩ := si_all I hp rv
  have hz2 : its.length ≤ sizeLine := by rw [← rv.length]; exact hz
  have hk : ∀ v ∈ its, IsSI s.heap v (siK s.heap v).1 (siK s.heap v).2 := fun v hv => by
    obtain ⟨p, hi⟩ := g1 v hv
    rw [siK_of hi]
    exact hi
  refine SrtO.sorted_ord (lexS_swo (siK s.heap)) hl.isList hz2 (fun h2 h1 a ha kk => ?_) fun out os ob => ?_
  · refine si_sortable (s := { s with heap := h1 }) (k := siK s.heap) (by omega) (fun v hv => (hk v hv).stays fun b o e _ => (kk b o e).2) fun o e c => ?_
    have e' : some o = some (seqObj "list" its.toArray 0) := e.symm.trans ha
    cases e'
    exact absurd (Value.type.inj c) (by decide)
  · have h3 : ∀ u ∈ out, ∃ a, u = Value.ref a := fun u hu => by
      obtain ⟨p, a, o, t, u', n, e, _⟩ := g1 u (ob.perm.mem_iff.mp hu)
      exact ⟨a, e⟩
    obtain ⟨n, hn⟩ := sortedAll_at s.heap its out.toArray
    have hlen : (out.map backV).length ≤ sizeLine := by rw [List.length_map, ob.perm.length_eq]; exact hz2
    have J := I.laid (t' := s.toks) (o := .lst (out.map backV)) (fun b o e => sortedAll_old e) (Nat.le_succ _) (show ObjOk X.prog X.w _ _ _ (.lst (out.map backV)) from ⟨hlen, out, n, vals_back h3, hn⟩)
    refine ⟨.ref _, _, J, rfl, ?_⟩
    have e1 : (out.map fun v => (backV v, siK s.heap v)).map (·.1) = out.map backV := by rw [List.map_map]; rfl
    have e2 : (out.map fun v => (backV v, siK s.heap v)).map (·.2) = out.map (siK s.heap) := by rw [List.map_map]; rfl
    rw [← e1]
    refine q _ _ ?_ ?_ (I.hok.fresh (Nat.le_succ _))
    · rw [← g2]
      exact ob.perm.map _
    · rw [e2]
      exact List.pairwise_map.mpr os
end
theorem insP_perm (x : Str × Int) : ∀ l : List (Str × Int), (insP x l).Perm (x :: l)
  | [] => .refl _
  | y :: r => by
    unfold insP
    split
    · exact ((insP_perm x r).cons y).trans (List.Perm.swap x y r)
    · exact .refl _
theorem sortP_perm : ∀ l : List (Str × Int), (sortP l).Perm l
  | [] => .refl _
  | x :: r => (insP_perm x (sortP r)).trans ((sortP_perm r).cons x)
theorem insP_sorted (x : Str × Int) : ∀ {l : List (Str × Int)}, SrtO.Srtd lexS l → SrtO.Srtd lexS (insP x l)
  | [], _ => List.pairwise_singleton _ _
  | y :: r, h => by
    have O := lexS_swo (fun p : Str × Int => p)
    obtain ⟨h1, h2⟩ := List.pairwise_cons.mp h
    unfold insP
    split
    · rename_i e
      refine List.pairwise_cons.mpr ⟨fun z hz => ?_, insP_sorted x h2⟩
      rcases List.mem_cons.mp ((insP_perm x r).mem_iff.mp hz) with rfl | hz
      · exact O.asym _ _ e
      · exact h1 z hz
    · rename_i e
      have e : lexS y x = false := by simpa using e
      refine List.pairwise_cons.mpr ⟨fun z hz => ?_, h⟩
      rcases List.mem_cons.mp hz with rfl | hz
      · exact e
      · exact O.tr x y z e (h1 z hz)
theorem sortP_sorted : ∀ l : List (Str × Int), SrtO.Srtd lexS (sortP l)
  | [] => .nil
  | x :: r => insP_sorted x (sortP_sorted r)
theorem lexS_tri {p q : Str × Int} (h1 : lexS p q = false) (h2 : lexS q p = false) : p = q := by
  rw [lexS_no] at h1 h2
  rcases str_cases p.1 q.1 with c | c | c
  · exact absurd (.inl c) h1
  · have a : ¬ p.2 < q.2 := fun l => h1 (.inr ⟨c, l⟩)
    have b : ¬ q.2 < p.2 := fun l => h2 (.inr ⟨c.symm, l⟩)
    exact Prod.ext c (by omega)
  · exact absurd (.inl c) h2
theorem sortedP_one : ∀ {l m : List (Str × Int)}, SrtO.Srtd lexS l → SrtO.Srtd lexS m → l.Perm m → l = m
  | [], m, _, _, p => by simpa using p.symm
  | x :: l, [], _, _, p => by simpa using p
  | x :: l, y :: m, h1, h2, p => by
    obtain ⟨a1, a2⟩ := List.pairwise_cons.mp h1
    obtain ⟨b1, b2⟩ := List.pairwise_cons.mp h2
    have e : x = y := by
      have hx : x ∈ y :: m := p.mem_iff.mp List.mem_cons_self
      have hy : y ∈ x :: l := p.mem_iff.mpr List.mem_cons_self
      rcases List.mem_cons.mp hx with rfl | hx
      · rfl
      · rcases List.mem_cons.mp hy with rfl | hy
        · rfl
        · exact lexS_tri (b1 x hx) (a1 y hy)
    subst e
    rw [sortedP_one a2 b2 (List.Perm.cons_inv p)]
theorem sortP_one {xs ys : List (Str × Int)} (p : ys.Perm xs) (h : SrtO.Srtd lexS ys) : ys = sortP xs := sortedP_one h (sortP_sorted xs) (p.trans (sortP_perm xs).symm)
section
variable {K : PySem.W.Frag} {H : Hp} {al : Addr → Prop} {ρ : Pl}
/-- pairs, as they are represented -/
theorem prsS_rd : ∀ {ds : List D} {vs : List V} {ps : List (Str × Int)}, RDs K H al ρ ds vs → prsS ds = some ps → ds = ps.map prS ∧ Paired (fun x p => ∃ t, x = V.ref t ∧ SqT K H t [.str p.1, .int p.2]) vs ps ∧ ∀ z ∈ vs.zip ps, RD K H al ρ (prS z.2) z.1
  | _, _, ps, .nil, e => by
    cases e
    exact ⟨rfl, .nil, (fun _ h => by cases h)⟩
  | _, _, ps, @RDs.cons _ _ _ _ d ds v vs h r, e => by
    have key : ∀ (x : Str) (i : Int), d = .tup [.str x, .int i] → ∃ qs, prsS ds = some qs ∧ ps = (x, i) :: qs := by
      rintro x i rfl
      have e : (prsS ds).map ((x, i) :: ·) = some ps := e
      cases q : prsS ds with
      | none => rw [q] at e; cases e
      | some qs => rw [q] at e; cases e; exact ⟨qs, rfl, rfl⟩
    have shape : ∃ (x : Str) (i : Int), d = .tup [.str x, .int i] := by
      unfold prsS at e
      split at e
      · rename_i hh; cases hh
      · rename_i x i _ hh; cases hh; exact ⟨x, i, rfl⟩
      · cases e
    obtain ⟨x, i, hd⟩ := shape
    obtain ⟨qs, e2, rfl⟩ := key x i hd
    subst hd
    obtain ⟨g1, g2, g3⟩ := prsS_rd r e2
    obtain ⟨t, us, rfl, k1, _, k3⟩ := h.tup_inv
    obtain ⟨u, w, rfl, ku, kw⟩ := k3.two
    rw [ku.str_inv, kw.int_inv] at k1
    refine ⟨by rw [g1]; rfl, .cons ⟨t, rfl, k1⟩ g2, fun z hz => ?_⟩
    rw [List.zip_cons_cons] at hz
    rcases List.mem_cons.mp hz with rfl | hz
    · exact h
    · exact g3 z hz
theorem prs_back : ∀ {zs : List (V × Str × Int)}, (∀ z ∈ zs, RD K H al ρ (prS z.2) z.1) → RDs K H al ρ ((zs.map (·.2)).map prS) (zs.map (·.1))
  | [], _ => .nil
  | z :: r, h => .cons (h z List.mem_cons_self) (prs_back fun y hy => h y (List.mem_cons_of_mem _ hy))
theorem keysL_rd : ∀ {ds : List D} {vs : List V} {ks : List Key}, RDs K H al ρ ds vs → keysL ds = some ks → vs = ks.map kV
  | _, _, ks, .nil, e => by cases e; rfl
  | _, _, ks, @RDs.cons _ _ _ _ d ds v vs h r, e => by
    unfold keysL at e
    split at e
    · rename_i hh; cases hh
    · rename_i x _ hh
      cases hh
      cases q : keysL ds with
      | none => rw [q] at e; cases e
      | some qs =>
        rw [q] at e
        cases e
        rw [List.map_cons, ← keysL_rd r q, h.str_inv]; rfl
    · rename_i x _ hh
      cases hh
      cases q : keysL ds with
      | none => rw [q] at e; cases e
      | some qs =>
        rw [q] at e
        cases e
        rw [List.map_cons, ← keysL_rd r q, h.int_inv]; rfl
    · cases e
theorem zip_rks : ∀ {ks : List Key} {ds : List D} {vs : List V}, RDs K H al ρ ds vs → RKs K H al ρ (ks.zip ds) (ks.zip vs)
  | [], _, _, _ => .nil
  | _ :: _, _, _, .nil => .nil
  | _ :: _, _, _, .cons h r => .cons h (zip_rks r)
end
end Z


/-! Z5: built-in calls, methods, places, slices by values. -/
namespace Z
open PySem L2 PySem.Spec PyProof.Rows

/-! ### texts in order, however many -/
def rSrtL (K : PySem.W.Frag) : List V → Hp → VK → Prop := fun vs H Q => ∃ (l : Addr) (zs : List Str), vs = [V.ref l] ∧ zs.length ≤ sizeLine ∧ SqL K H l (zs.map V.str) ∧
  ∀ (ws : List Str) (b : Addr), sortedS ws = true → ws.Perm zs → H b = none → Q (.ref b) (upd H b (.lst (ws.map V.str)))
theorem cr_srtL {X : Cx} : CallR X (.builtin "sorted") (rSrtL X.K) := by
  rintro pins s σ H vs us Q I r ⟨l, zs, rfl, hz, hs, q⟩
  rw [Vals.ref1 r]
  obtain ⟨its, rv, hl, _⟩ := I.list hs
  have hn : its.length = zs.length := by rw [← rv.length, List.length_map]
  refine sorted_strsAny hl.isList rv.strs (by omega) fun out ws w1 w2 w3 => ?_
  obtain ⟨k, hk⟩ := sortedAll_at s.heap its out
  have I2 := I.laid (t' := s.toks) (o := .lst (ws.map V.str)) (fun _ _ => sortedAll_old) (Nat.le_succ _)
    (show ObjOk X.prog X.w _ _ _ (.lst (ws.map V.str)) from ⟨by rw [List.length_map, w2.length_eq]; exact hz, out.toList, k, vals_of_strs w1, hk⟩)
  exact ⟨.ref _, _, I2, rfl, q ws _ w3 w2 (I.hok.fresh (Nat.le_succ _))⟩
def rSrtD : List V → Hp → VK → Prop := fun vs H Q => ∃ (l : Addr) (zs : List (Key × V)) (ns : List Str), vs = [.ref l] ∧ ns.length ≤ sizeLine ∧ Rd H l (.dK zs) ∧ zs.map (·.1) = ns.map Sum.inr ∧
  ∀ (ws : List Str) (b : Addr), sortedS ws = true → ws.Perm ns → H b = none → Q (.ref b) (upd H b (.lst (ws.map V.str)))
theorem cr_srtD {X : Cx} (hc : X.calm = true) : CallR X (.builtin "sorted") rSrtD := by
  rintro pins s σ H vs us Q I r ⟨l, zs, ns, rfl, hz, hd, hks, q⟩
  rw [Vals.ref1 r]
  obtain ⟨z, lo, ws, rel, dd⟩ := dk_rd I.hok hd
  obtain ⟨k0, hat⟩ := dd.dictAt
  have hkeys : ws.map (·.1) = ns.map Sum.inr := by rw [← rel.keys]; exact hks
  have hl : ws.length = ns.length := by simpa using congrArg List.length hkeys
  refine Calls.call_function_entry kind_sorted plain_sorted entry_sorted (args_sorted1 _) (?_ : wpAny _ _ (Builtin.«sorted» _) _ _ _)
  rw [Builtin.«sorted»]
  refine wpAny_bind (m := checkCount "sorted" 1 1 _) (wpAny_pure (wpAny_bind (PySem.W.kdu_collect (A := X.A.in1) (PySem.W.kdl_dict (knd := mixKind X.prog X.w) (kvs := ws) (ep := k0) lo) (I.ok.hd hc) hat (by omega) fun h2 t2 acc hk hacc => ?_)))
  obtain ⟨ha1, ha2⟩ := hacc
  have hal : acc.toList.length = ns.length := by rw [Array.length_toList, ha1, hl]
  have hS : StrsAre acc.toList ns := by
    refine strs_at hal fun j v e => ?_
    obtain ⟨kk, x, e1, e2⟩ := ha2 j v (by rw [← Array.getElem?_toList]; exact e)
    have e3 : (ns.map Sum.inr)[j]? = some kk := by rw [← hkeys, List.getElem?_map, e1]; rfl
    rw [List.getElem?_map] at e3
    cases e4 : ns[j]? <;> rw [e4] at e3 <;> cases e3
    obtain ⟨t, ev⟩ := Value.isStrOf_shape (v := v) e2
    exact ⟨_, t, rfl, ev⟩
  have J : Inv X pins σ H { s with heap := h2, toks := t2 } := I.kept hk
  refine wpAny_bind (wpAny_newList (?_ : wpAny _ _ _ _ _ { s with heap := h2.push (seqObj "list" acc.toList.toArray 0), toks := t2 }) (by rw [hal]; exact hz))
  have hoL : (h2.push (seqObj "list" acc.toList.toArray 0)).get? h2.objs.size = some (seqObj "list" acc.toList.toArray 0) := Heap.get?_push_size _ rfl
  refine wpAny_bind (wpAny_holding (wpAny_call_entry slot_list_sort ⟨_, hoL, rfl⟩ entry_list_sort (list_sort_treeKAny strKind_oneLt (s := { s with heap := h2.push (seqObj "list" acc.toList.toArray 0), toks := t2 }) hoL hS.keysOf
    (fun v₁ v₂ rest e => keyKind_strs (by rw [← e]; exact hS)) (by rw [hal]; exact hz) fun st hp hs => ⟨_, rfl, ?_⟩) (args_list_sort _)))
  obtain ⟨ys, g1, g2, g3⟩ := sorted_out_str hS hp hs
  obtain ⟨k1, hk1⟩ := sortedHeap_at (vs := acc.toList) (out := (arrOf st).map (·.2)) hoL
  have J2 := J.laid (t' := t2) (o := .lst (ys.map V.str)) (a := h2.objs.size) (h' := sortedHeap (h2.push (seqObj "list" acc.toList.toArray 0)) h2.objs.size acc.toList ((arrOf st).map (·.2))) (fun b u e => by
    have hb : b < h2.objs.size := Heap.lt_size e
    rw [sortedHeap_old (Nat.ne_of_lt hb) (by rw [size_push']; exact Nat.lt_succ_of_lt hb)]
    exact Heap.get?_push_of_some _ e) (Nat.le_refl _)
    (show ObjOk X.prog X.w _ _ _ (.lst (ys.map V.str)) from ⟨by rw [List.length_map, g2.length_eq]; exact hz, ((arrOf st).map (·.2)).toList, k1, vals_of_strs g1, by rw [Array.toArray_toList]; exact hk1⟩)
  exact wpAny_pure ⟨_, rfl, .ref h2.objs.size, _, J2, rfl, q ys _ g3 g2 (J.hok.fresh (Nat.le_refl _))⟩
def biVal : Bi → Value
  | .len => .builtin "len" | .abs => .builtin "abs" | .int => .type "int" | .all => .builtin "all" | .any => .builtin "any" | .sum => .builtin "sum"
  | .max => .builtin "max" | .min => .builtin "min" | .tuple => .type "tuple" | .list => .type "list" | .sorted => .builtin "sorted" | .dict => .type "dict" | .str => .type "str"
  | .sset => .builtin "sorted" | .sortp => .builtin "sorted" | .dzip => .type "dict"
def biName : Bi → Str
  | .len => "len" | .abs => "abs" | .int => "int" | .all => "all" | .any => "any" | .sum => "sum"
  | .max => "max" | .min => "min" | .tuple => "tuple" | .list => "list" | .sorted => "sorted" | .dict => "dict" | .str => "str"
  | .sset => "sorted" | .sortp => "sorted" | .dzip => "dict"
def rBiZ (K : PySem.W.Frag) : Bi → List V → Hp → VK → Prop
  | .len => fun xs H Q => (∃ x n, xs = [x] ∧ LenV K x H n ∧ Q (.int n) H) ∨ ∃ a kvs, xs = [V.ref a] ∧ H a = some (.dK kvs) ∧ Q (.int kvs.length) H
  | .abs => fun xs H Q => ∃ i, xs = [.int i] ∧ Q (.int (if i < 0 then -i else i)) H
  | .int => fun xs H Q => (∃ i, xs = [.int i] ∧ Q (.int i) H) ∨ ∃ k, xs = [.bl k] ∧ Q (.int (if k then 1 else 0)) H
  | .all => rAll K
  | .any => rAny K
  | .sum => rSum K
  | .max => fun xs H Q => rMax K xs H Q ∨ ∃ i j, xs = [.int i, .int j] ∧ Q (.int (if j > i then j else i)) H
  | .min => fun xs H Q => rMin K xs H Q ∨ ∃ i j, xs = [.int i, .int j] ∧ Q (.int (if j < i then j else i)) H
  | .tuple => fun xs H Q => ∃ p ys, xs = [.ref p] ∧ ((SqL K H p ys ∧ ∀ (l : Addr) (o : Obj), o.dict = none → H l = none → Q (.ref l) (upd H l (.frz o (.tup ys)))) ∨ (SqT K H p ys ∧ Q (.ref p) H))
  | .list => fun xs H Q => (∃ p ys, xs = [.ref p] ∧ (SqL K H p ys ∨ SqT K H p ys) ∧ ∀ l, H l = none → Q (.ref l) (upd H l (.lst ys))) ∨
      ∃ (a : Addr) (kvs : List (Key × V)), xs = [.ref a] ∧ Rd H a (.dK kvs) ∧ ∀ p, H p = none → Q (.ref p) (upd H p (.lst (kvs.map fun kv => kV kv.1)))
  | .sorted => fun xs H Q => rSrtL K xs H Q ∨ rSrtD xs H Q
  | .dict => fun xs H Q => (∃ (a : Addr) (ps : List Addr) (kvs : List (Key × V)), xs = [.ref a] ∧ SqL K H a (ps.map V.ref) ∧ Paired (fun p kv => SqT K H p [kV kv.1, kv.2]) ps kvs ∧ ∀ p, H p = none → Q (.ref p) (upd H p (.dK (mergeK [] kvs)))) ∨
      ∃ (a : Addr) (ps : List Addr) (kvs : List (Key × V)), xs = [.ref a] ∧ PlT K H a (ps.map V.ref) ∧ Paired (fun p kv => SqT K H p [kV kv.1, kv.2]) ps kvs ∧ ∀ p, H p = none → Q (.ref p) (upd H p (.dK (mergeK [] kvs)))
  | .str => fun xs H Q => ∃ i, xs = [.int i] ∧ i.natAbs.log2 < 1920 ∧ Q (.str (toString i)) H
  | .sset => fun _ _ _ => False
  | .sortp => rSrtP K
  | .dzip => fun _ _ _ => False
theorem cr_biZ {X : Cx} (hc : X.calm = true) : ∀ b : Bi, CallR X (biVal b) (rBiZ X.K b)
  | .len => CallR.or call_len call_lenD
  | .abs => call_abs
  | .int => call_int1
  | .all => cr_all hc
  | .any => cr_any hc
  | .sum => cr_sum hc
  | .max => CallR.or (cr_max hc) (call_max2 hc)
  | .min => CallR.or (cr_min hc) (call_min2 hc)
  | .tuple => call_tupleF
  | .list => CallR.or call_list_of (call_listD hc)
  | .sorted => CallR.or cr_srtL (cr_srtD hc)
  | .dict => CallR.or (call_dictP hc) (call_dictTu hc)
  | .str => call_str_int
  | .sset => fun _ _ _ _ _ _ _ _ _ h => h.elim
  | .sortp => cr_srtP
  | .dzip => fun _ _ _ _ _ _ _ _ _ h => h.elim
section
variable {K : PySem.W.Frag} {ca : String → Addr} {W : WX} {σ : L2.St} {ρ : Pl} {M : Sto} {H : Hp} {Q : VK}
theorem RKs.put : ∀ {kvs : List (Key × D)} {ws : List (Key × V)} {al : Addr → Prop} {k : Key} {d : D} {v : V}, RKs K H al ρ kvs ws → RD K H al ρ d v → RKs K H al ρ (putD k d kvs) (L2.putK ws k v) := by
  have hmap : ∀ {kvs : List (Key × D)} {ws : List (Key × V)} {al : Addr → Prop} {k : Key} {d : D} {v : V}, RKs K H al ρ kvs ws → RD K H al ρ d v →
      RKs K H al ρ (kvs.map fun kv => if kv.1 = k then (kv.1, d) else kv) (ws.map fun kv => if kv.1 = k then (kv.1, v) else kv) := by
    intro kvs ws al k d v r q
    induction r with
    | nil => exact .nil
    | @cons j x xs u us h t ih =>
      rw [List.map_cons, List.map_cons]
      by_cases e : j = k
      · simp only [e, if_true]; exact .cons q ih
      · simp only [e, if_false]; exact .cons h ih
  have happ : ∀ {kvs : List (Key × D)} {ws : List (Key × V)} {al : Addr → Prop} {k : Key} {d : D} {v : V}, RKs K H al ρ kvs ws → RD K H al ρ d v → RKs K H al ρ (kvs ++ [(k, d)]) (ws ++ [(k, v)]) := by
    intro kvs ws al k d v r q
    induction r with
    | nil => exact .cons q .nil
    | cons h t ih => exact .cons h ih
  intro kvs ws al k d v r q
  unfold putD L2.putK
  rw [keys_any k r, valV_any]
  by_cases e : (valV ws k).isSome = true
  · rw [if_pos e, if_pos e]; exact hmap r q
  · rw [if_neg e, if_neg e]; exact happ r q
theorem RKs.merge : ∀ {more : List (Key × D)} {ms : List (Key × V)} {kvs : List (Key × D)} {ws : List (Key × V)} {al : Addr → Prop}, RKs K H al ρ more ms → RKs K H al ρ kvs ws →
    RKs K H al ρ (more.foldl (fun a kv => putD kv.1 kv.2 a) kvs) (mergeK ws ms)
  | _, _, _, _, _, .nil, s => s
  | _, _, _, _, _, .cons (k := k) q r, s => by have h := RKs.merge r (s.put (k := k) q); exact h
theorem pairs_rd : ∀ {ds : List D} {vs : List V} {kvs : List (Key × D)} {al : Addr → Prop}, RDs K H al ρ ds vs → pairsK ds = some kvs → ∃ (ps : List Addr) (ws : List (Key × V)), vs = ps.map V.ref ∧ Paired (fun p kv => SqT K H p [kV kv.1, kv.2]) ps ws ∧ RKs K H al ρ kvs ws := by
  intro ds
  induction ds with
  | nil => intro vs kvs al r e; cases r; cases e; exact ⟨[], [], rfl, .nil, .nil⟩
  | cons d ds ih =>
    intro vs kvs al r e
    cases r with
    | @cons _ _ v vs q r =>
      unfold pairsK at e
      split at e
      · rename_i heq; cases heq
      · rename_i x w rest heq
        cases heq
        cases h : pairsK ds with
        | none => rw [h] at e; cases e
        | some cs =>
          rw [h] at e; cases e
          obtain ⟨ps, ws, rfl, p, k⟩ := ih r h
          obtain ⟨a, us, rfl, h1, h2, h3⟩ := q.tup_inv
          obtain ⟨u1, u2, rfl, q1, q2⟩ := h3.two
          rw [q1.str_inv] at h1
          exact ⟨a :: ps, (Sum.inr x, u2) :: ws, rfl, .cons h1 p, .cons q2 k⟩
      · rename_i x w rest heq
        cases heq
        cases h : pairsK ds with
        | none => rw [h] at e; cases e
        | some cs =>
          rw [h] at e; cases e
          obtain ⟨ps, ws, rfl, p, k⟩ := ih r h
          obtain ⟨a, us, rfl, h1, h2, h3⟩ := q.tup_inv
          obtain ⟨u1, u2, rfl, q1, q2⟩ := h3.two
          rw [q1.int_inv] at h1
          exact ⟨a :: ps, (Sum.inl x, u2) :: ws, rfl, .cons h1 p, .cons q2 k⟩
      · cases e
theorem max_one : ∀ {ns : List Int} {i m : Int}, maxInt ns = some i → m ∈ ns → (∀ y, y ∈ ns → y ≤ m) → m = i := by
  have key : ∀ (r : List Int) (x : Int), (r.foldl max x = x ∨ r.foldl max x ∈ r) ∧ x ≤ r.foldl max x ∧ ∀ y ∈ r, y ≤ r.foldl max x := by
    intro r
    induction r with
    | nil => intro x; exact ⟨.inl rfl, Int.le_refl _, fun _ h => nomatch h⟩
    | cons z r ih =>
      intro x
      obtain ⟨h1, h2, h3⟩ := ih (max x z)
      rw [List.foldl_cons]
      refine ⟨?_, by omega, fun y hy => ?_⟩
      · rcases h1 with h1 | h1
        · rw [h1]
          by_cases e : z ≤ x
          · exact .inl (by omega)
          · refine .inr (List.mem_cons.mpr (.inl (by omega)))
        · exact .inr (List.mem_cons_of_mem _ h1)
      · rcases List.mem_cons.mp hy with rfl | hy
        · omega
        · exact h3 y hy
  intro ns i m e h1 h2
  cases ns with
  | nil => cases h1
  | cons x r =>
    have e := Option.some.inj e
    obtain ⟨k1, k2, k3⟩ := key r x
    rw [e] at k1 k2 k3
    have hi : i ∈ x :: r := by
      rcases k1 with k1 | k1
      · rw [k1]; exact List.mem_cons_self
      · exact List.mem_cons_of_mem _ k1
    have h3 := h2 i hi
    rcases List.mem_cons.mp h1 with rfl | h1
    · omega
    · have := k3 m h1; omega
theorem biD_rd {b : Bi} {m : Bool} {ds : List D} {vs : List V} (rp : Rep K ρ M H) (r : RDs K H (Al ρ M) ρ ds vs) (nb : b.two = false) (f : Fi K ca (rDD K) W σ ρ M H (biD b m ds M) Q) : rBiZ K b vs H Q := by
  unfold biD at f
  split at f
  -- len
  · obtain ⟨v, rfl, q⟩ := r.one
    rw [q.str_inv]
    obtain ⟨c, f⟩ := f.ite
    exact .inl ⟨_, _, rfl, ⟨sz_of c, rfl⟩, f.ok rp (.int _)⟩
  · obtain ⟨v, rfl, q⟩ := r.one
    obtain ⟨a, rfl, ha⟩ := q.loc_inv
    split at f
    · rename_i h
      obtain ⟨ws, h1, h2, h3⟩ := rp.lst_at h ha
      refine .inl ⟨_, _, rfl, .inl ⟨ws, .inl (.inl h1), rfl⟩, ?_⟩
      rw [h3.length] at f
      exact f.ok rp (.int _)
    · rename_i h
      obtain ⟨ws, h1, h2, h3⟩ := rp.dct_at h ha
      refine .inr ⟨_, _, rfl, h1, ?_⟩
      rw [h3.length] at f
      exact f.ok rp (.int _)
    · exact f.elim
  · obtain ⟨v, rfl, q⟩ := r.one
    obtain ⟨a, ws, rfl, h1, h2, h3⟩ := q.tup_inv
    refine .inl ⟨_, _, rfl, .inr ⟨ws, h1, rfl⟩, ?_⟩
    rw [h3.length] at f
    exact f.ok rp (.int _)
  · obtain ⟨v, rfl, q⟩ := r.one
    obtain ⟨a, ws, rfl, h1, _, h2, h3⟩ := q.lst_inv
    refine .inl ⟨_, _, rfl, .inl ⟨ws, .inl (.inl h1), rfl⟩, ?_⟩
    rw [h3.length] at f
    exact f.ok rp (.int _)
  · obtain ⟨v, rfl, q⟩ := r.one
    obtain ⟨a, ws, rfl, h1, h2, h3⟩ := q.scr_inv
    refine .inl ⟨_, _, rfl, .inl ⟨ws, h1, rfl⟩, ?_⟩
    rw [h3.length] at f
    exact f.ok rp (.int _)
  -- abs, int
  · obtain ⟨v, rfl, q⟩ := r.one
    rw [q.int_inv]
    exact ⟨_, rfl, f.ok rp (.int _)⟩
  · obtain ⟨v, rfl, q⟩ := r.one
    rw [q.int_inv]
    exact .inl ⟨_, rfl, f.ok rp (.int _)⟩
  -- all, any, sum
  · obtain ⟨v, rfl, q⟩ := r.one
    obtain ⟨a, ws, rfl, h1, _, h2, h3⟩ := q.lst_inv
    obtain ⟨bs, e, f⟩ := f.ofO
    rw [bools_rd h3 e] at h1
    exact ⟨_, bs, rfl, .inl (.inl h1), f.ok rp (.bl _)⟩
  · obtain ⟨v, rfl, q⟩ := r.one
    obtain ⟨a, ws, rfl, h1, _, h2, h3⟩ := q.lst_inv
    obtain ⟨bs, e, f⟩ := f.ofO
    rw [bools_rd h3 e] at h1
    exact ⟨_, bs, rfl, .inl (.inl h1), f.ok rp (.bl _)⟩
  · obtain ⟨v, rfl, q⟩ := r.one
    obtain ⟨a, ws, rfl, h1, _, h2, h3⟩ := q.lst_inv
    obtain ⟨bs, e, f⟩ := f.ofO
    rw [ints_rd h3 e] at h1
    exact ⟨_, bs, rfl, .inl (.inl h1), f.ok rp (.int _)⟩
  -- max, min
  · obtain ⟨v, rfl, q⟩ := r.one
    obtain ⟨a, ws, rfl, h1, _, h2, h3⟩ := q.lst_inv
    obtain ⟨bs, e, f⟩ := f.ofO
    obtain ⟨i, e2, f⟩ := f.ofO
    rw [ints_rd h3 e] at h1
    refine .inl ⟨_, bs, rfl, .inl (.inl h1), ?_, fun k hk hl => ?_⟩
    · cases bs with
      | nil => cases e2
      | cons _ _ => exact Nat.succ_pos _
    · rw [max_one e2 hk hl]
      exact f.ok rp (.int _)
  · obtain ⟨v, w, rfl, q, q2⟩ := r.two
    rw [q.int_inv, q2.int_inv]
    exact .inr ⟨_, _, rfl, f.ok rp (.int _)⟩
  · obtain ⟨v, w, rfl, q, q2⟩ := r.two
    rw [q.int_inv, q2.int_inv]
    exact .inr ⟨_, _, rfl, f.ok rp (.int _)⟩
  -- tuple
  · obtain ⟨v, rfl, q⟩ := r.one
    obtain ⟨xs, e, f⟩ := f.ofO
    obtain ⟨a, ws, rfl, h1, h2, h3⟩ := asSeq_rd rp q e
    rcases h3 with ⟨h3, _⟩ | ⟨h3, h4⟩
    · refine ⟨a, ws, rfl, .inl ⟨h3, fun l o ho hl => ?_⟩⟩
      obtain ⟨r1, x1, q1⟩ := rp.newT hl ho h1 h2
      exact f _ _ _ r1 x1 q1
    · subst h4
      exact ⟨a, ws, rfl, .inr ⟨h3.sq, f.ok rp q⟩⟩
  -- list
  · obtain ⟨v, rfl, q⟩ := r.one
    obtain ⟨a, rfl, ha⟩ := q.loc_inv
    split at f
    · rename_i h
      obtain ⟨ws, h1, h2, h3⟩ := rp.lst_at h ha
      exact .inl ⟨a, ws, rfl, .inl (.inl (.inl h1)), fun l hl => newList_rd rp h3 h2 f l hl⟩
    · rename_i h
      obtain ⟨ws, h1, h2, h3⟩ := rp.dct_at h ha
      exact .inr ⟨a, ws, rfl, .inl h1, fun l hl => newList_rd rp (rds_keys h3) (by rw [List.length_map]; exact h2) f l hl⟩
    · exact f.elim
  · obtain ⟨v, rfl, q⟩ := r.one
    obtain ⟨a, ws, rfl, h1, h2, h3⟩ := q.tup_inv
    exact .inl ⟨a, ws, rfl, .inr h1, fun l hl => newList_rd rp h3 h2 f l hl⟩
  · obtain ⟨v, rfl, q⟩ := r.one
    obtain ⟨a, ws, rfl, h1, _, h2, h3⟩ := q.lst_inv
    exact .inl ⟨a, ws, rfl, .inl (.inl (.inl h1)), fun l hl => newList_rd rp h3 h2 f l hl⟩
  -- sorted
  · obtain ⟨v, rfl, q⟩ := r.one
    obtain ⟨a, rfl, ha⟩ := q.loc_inv
    split at f
    · rename_i h
      obtain ⟨ws, h1, h2, h3⟩ := rp.dct_at h ha
      obtain ⟨bs, e, f⟩ := f.ofO
      split at f
      · rename_i hlen
        refine .inr ⟨a, ws, bs, rfl, sz_of hlen, .inl h1, (keys_same h3).trans (keys_strs e), fun ys p h5 h4 hp => ?_⟩
        rw [sortStr_one h4 h5]
        refine newList_rd rp (rds_strs _) ?_ f p hp
        rw [List.length_map, (sortStr_perm bs).length_eq]
        exact sz_of hlen
      · exact f.elim
    · exact f.elim
  · obtain ⟨v, rfl, q⟩ := r.one
    obtain ⟨a, ws, rfl, h1, _, h2, h3⟩ := q.lst_inv
    obtain ⟨bs, e, f⟩ := f.ofO
    split at f
    · rename_i hlen
      rw [strs_rd h3 e] at h1
      refine .inl ⟨a, bs, rfl, sz_of hlen, .inl (.inl h1), fun ys p h5 h4 hp => ?_⟩
      rw [sortStr_one h4 h5]
      refine newList_rd rp (rds_strs _) ?_ f p hp
      rw [List.length_map, (sortStr_perm bs).length_eq]
      exact sz_of hlen
    · exact f.elim
  -- sset
  · cases nb
  -- dict
  · obtain ⟨v, rfl, q⟩ := r.one
    obtain ⟨xs, e, f⟩ := f.ofO
    obtain ⟨kvs, e2, f⟩ := f.ofO
    obtain ⟨a, ws, rfl, h1, h2, h3⟩ := asSeq_rd rp q e
    obtain ⟨ps, us, rfl, p1, k1⟩ := pairs_rd h2 e2
    have fin : ∀ p, H p = none → Q (.ref p) (upd H p (.dK (mergeK [] us))) := fun p hp => by
      have z : (mergeK [] us).length ≤ sizeLine := by
        refine Nat.le_trans (length_mergeK us []) ?_
        rw [List.length_nil, Nat.zero_add, ← p1.length]
        rw [List.length_map] at h1
        exact h1
      obtain ⟨r1, x1, e1⟩ := rp.newD hp z (k1.merge .nil)
      exact f _ _ _ r1 x1 (.loc e1)
    rcases h3 with ⟨h3, _⟩ | ⟨h3, h4⟩
    · exact .inl ⟨a, ps, us, rfl, h3, p1, fin⟩
    · exact .inr ⟨a, ps, us, rfl, h3, p1, fin⟩
  -- str
  · obtain ⟨v, rfl, q⟩ := r.one
    rw [q.int_inv]
    obtain ⟨c, f⟩ := f.ite
    exact ⟨_, rfl, of_decide_eq_true c, f.ok rp (.str _)⟩
  -- sortp
  · obtain ⟨v, rfl, q⟩ := r.one
    obtain ⟨a, ws, rfl, h1, _, h2, h3⟩ := q.lst_inv
    obtain ⟨bs, e, f⟩ := f.ofO
    obtain ⟨hlen, f⟩ := f.ite
    obtain ⟨g1, g2, g3⟩ := prsS_rd h3 e
    refine ⟨a, ws, bs, rfl, .inl (.inl h1), g2, fun zs p z1 z2 hp => ?_⟩
    have hws : ws.length = bs.length := by
      have := h3.length
      rw [g1, List.length_map] at this
      exact this.symm
    have e2 : (zs.map (·.2)) = sortP bs := sortP_one (by
      have z3 := z1.map (·.2)
      rw [show (ws.zip bs).map (·.2) = bs from List.map_snd_zip (by omega)] at z3
      exact z3) z2
    rw [← e2] at f
    refine newList_rd rp (prs_back fun z hz => g3 z (z1.mem_iff.mp hz)) ?_ f p hp
    rw [List.length_map, z1.length_eq, List.length_zip, hws, Nat.min_self]
    exact sz_of hlen
  -- dzip
  · cases nb
  · exact f.elim
end
end Z


/-! Z6: rules for expressions. -/
namespace Z
open PySem L2 PySem.Spec PyProof.Rows

/-! ### how an expression stands -/
def plainX : Expr → Bool
  | .Starred .. => false
  | .Set .. => false
  | .Slice .. => false
  | .Lambda .. => false
  | _ => true
/-- what may stand ahead of a point -/
def baseX : Expr → Bool
  | .Call .. => false
  | _ => true
def testX : Expr → Bool
  | .UnaryOp .Not _ _ => false
  | .BoolOp .. => false
  | .IfExp .. => false
  | .Compare .. => false
  | _ => true
def compX : Expr → Bool
  | .ListComp .. => true
  | .SetComp .. => true
  | .DictComp .. => true
  | _ => false
theorem starEach_plain {e : Expr} {es : List Expr} {env : Env} (h : plainX e = true) : starEach (e :: es) env = (false, eval e env) :: starEach es env := by
  cases e <;> first | rfl | cases h
theorem backTo_plain {env : Env} {pos : Pos} : ∀ {es : List Expr}, es.all plainX = true → (backTo pos (starEach es env)).any (·.1) = false
  | [], _ => rfl
  | e :: es, h => by
    rw [List.all_cons, Bool.and_eq_true] at h
    rw [starEach_plain h.1]
    show (false || (backTo pos (starEach es env)).any (·.1)) = false
    rw [backTo_plain h.2]; rfl
theorem base_plain {e : Expr} {f : Str} {env : Env} {w : Sem Value} (h : baseX e = true) : attributeBase e f env w = w := by
  cases e <;> first | rfl | cases h
theorem fold_plain {e : Expr} {env : Env} (h : plainX e = true) : ∀ x, foldedSetIterable e env x = pure x := by
  intro x
  cases e <;> first | rfl | cases h
theorem mark_plain {e : Expr} {op : CmpOp} (h : plainX e = true) : behindInMarks op e = false := by
  cases e <;> first | rfl | cases h
theorem test_plain {e : Expr} {env : Env} (h : testX e = true) : ∀ whole, isTrue e env whole = (do let v ← whole; standAt e.pos; holding [v] (truthy v)) := by
  intro w
  cases e with
  | UnaryOp op _ _ => cases op <;> first | rfl | cases h
  | _ => first | rfl | cases h
theorem ix_plain {b : Expr} (h : plainX b = true) : PlainIx b := by
  intro o i
  cases b <;> first | rfl | cases h
theorem swaps_plain {e : Expr} {t : Option Expr} {l : Nat} {env : Env} (h : compX e = false) : swapsWith e t l env = pure false := by
  cases e <;> first | rfl | cases h

abbrev zE (X : Cx) (ca : String → Addr) (W : WX) (C : Calls) (e : E) : TE := rd X.K ca (rDD X.K) W fun env M => evE C e env M
abbrev zEs (X : Cx) (ca : String → Addr) (W : WX) (C : Calls) (es : Es) : TA := rd X.K ca (rDs X.K) W fun env M => evEs C es env M
abbrev zT (X : Cx) (ca : String → Addr) (W : WX) (C : Calls) (e : E) : TT := rd X.K ca rId W fun env M => (evE C e env M).bind fun x M1 => ofO (asB x) M1
abbrev zO (X : Cx) (ca : String → Addr) (W : WX) (C : Calls) (o : Oe) : TO := rd X.K ca rId W fun env M => evO C o env M

section
variable {X : Cx} {ca : String → Addr} {W : WX} {C : Calls} {a b c : E} {pa pb pc : Expr} {pos : Pos}
theorem z_var {i : Nat} {x : Str} (hN : X.N[i]? = some x) (hv : Vis X.env.scope x) (hd : (x == ("__debug__" : Str)) = false) (hcd : (x == ("__classdict__" : Str)) = false) : PE X (.Name x pos) (zE X ca W C (.var i)) :=
  pe_imp (pe_var hN hv hd hcd) fun σ H Q ⟨ρ, env, M, rp, re, f⟩ => by
    dsimp only [evE] at f
    split at f
    · rename_i d h
      obtain ⟨v, h1, h2⟩ := re.at_ _ _ h
      exact ⟨v, h1, f.ok rp h2⟩
    · exact f.elim
theorem z_int {i : Int} {j : Nat} : PE X (.Constant (.int i) j pos) (zE X ca W C (.cst (.int i))) := pe_imp pe_int fun σ H Q ⟨ρ, env, M, rp, re, f⟩ => Fi.ok (R := rDD X.K) rp (.int _) f
theorem z_bl {i : Bool} {j : Nat} : PE X (.Constant (.bool i) j pos) (zE X ca W C (.cst (.bl i))) := pe_imp pe_bl fun σ H Q ⟨ρ, env, M, rp, re, f⟩ => Fi.ok (R := rDD X.K) rp (.bl _) f
theorem z_non {j : Nat} : PE X (.Constant .none j pos) (zE X ca W C (.cst .non)) := pe_imp pe_non fun σ H Q ⟨ρ, env, M, rp, re, f⟩ => Fi.ok (R := rDD X.K) rp .non f
theorem z_str {i : Str} {j : Nat} : PE X (.Constant (.str i) j pos) (zE X ca W C (.cst (.str i))) := pe_imp pe_str fun σ H Q ⟨ρ, env, M, rp, re, f⟩ => Fi.ok (R := rDD X.K) rp (.str _) f
theorem z_gl {x : Str} {g : String} {d : D} {v : V} {u : Value} (hg : Gl X x) (hm : X.mg x = some u) (r : RelV v u) (q : ∀ H al ρ, RD X.K H al ρ d v) (hd : (x == ("__debug__" : Str)) = false) : PE X (.Name x pos) (zE X ca W C (.gl g d)) :=
  pe_imp (pe_glob hg hm r hd) fun σ H Q ⟨ρ, env, M, rp, re, f⟩ => Fi.ok (R := rDD X.K) rp (q _ _ _) f
/-- two parts, then what is done with them -/
theorem rd2 {R : VK → V → V → Hp → Prop} {k : D → D → Sto → Res D} {σ : L2.St} {H : Hp} {Q : VK}
    (h : rd X.K ca (rDD X.K) W (fun env M => (evE C a env M).bind fun x M1 => (evE C b env M1).bind fun y M2 => k x y M2) σ H Q)
    (hk : ∀ ρ M H x y dx dy, Rep X.K ρ M H → RD X.K H (Al ρ M) ρ dx x → RD X.K H (Al ρ M) ρ dy y → Fi X.K ca (rDD X.K) W σ ρ M H (k dx dy M) Q → R Q x y H) :
    zE X ca W C a σ H fun x H1 => zE X ca W C b σ H1 fun y H2 => R Q x y H2 := by
  obtain ⟨ρ, env, M, rp, re, f⟩ := h
  refine ⟨ρ, env, M, rp, re, (f.bind (R1 := rDD X.K)).imp ?_⟩
  rintro x H1 ⟨ρ1, M1, d1, rp1, x1, q1, f1⟩
  refine ⟨ρ1, env, M1, rp1, re.ext x1, (f1.bind (R1 := rDD X.K)).imp ?_⟩
  rintro y H2 ⟨ρ2, M2, d2, rp2, x2, q2, f2⟩
  exact hk _ _ _ _ _ _ _ rp2 (RD.ext x2 q1) q2 f2
theorem rd1 {R : VK → V → Hp → Prop} {k : D → Sto → Res D} {σ : L2.St} {H : Hp} {Q : VK} (h : rd X.K ca (rDD X.K) W (fun env M => (evE C a env M).bind k) σ H Q)
    (hk : ∀ ρ M H x dx, Rep X.K ρ M H → RD X.K H (Al ρ M) ρ dx x → Fi X.K ca (rDD X.K) W σ ρ M H (k dx M) Q → R Q x H) : zE X ca W C a σ H fun x H1 => R Q x H1 := by
  obtain ⟨ρ, env, M, rp, re, f⟩ := h
  refine ⟨ρ, env, M, rp, re, (f.bind (R1 := rDD X.K)).imp ?_⟩
  rintro x H1 ⟨ρ1, M1, d1, rp1, x1, q1, f1⟩
  exact hk _ _ _ _ _ rp1 q1 f1
theorem z_bin {op : Bop} (ha : PE X pa (zE X ca W C a)) (hb : PE X pb (zE X ca W C b)) : PE X (.BinOp pa (bopOf op) pb pos) (zE X ca W C (.bin op a b)) :=
  pe_imp (pe_op (op_binZ op) ha hb) fun σ H Q h => rd2 (R := fun Q x y H => rBinZ X.K op x y H Q) (k := fun x y M => binD op x y M) h fun ρ M H x y dx dy rp qx qy f => binD_rd rp qx qy f
theorem z_neg (ha : PE X pa (zE X ca W C a)) : PE X (.UnaryOp .USub pa pos) (zE X ca W C (.neg a)) :=
  pe_imp (pe_un un_neg ha) fun σ H Q h => rd1 (R := fun Q x H => (rU fun i => .int (-i)) x H Q) h fun ρ M H x dx rp qx f => by
    cases dx <;> first | exact f.elim | skip
    rw [qx.int_inv]
    exact ⟨_, rfl, f.ok rp (.int _)⟩
theorem z_frz (ha : PE X pa (zE X ca W C a)) : PE X pa (zE X ca W C (.frz a)) :=
  pe_imp ha fun σ H Q h => by
    have h2 := rd1 (R := fun Q x H => Q x H) (k := fun x M => frzD x M) h fun ρ M H x dx rp qx f => by
      unfold frzD at f
      split at f
      · rename_i n
        obtain ⟨b, rfl, hb⟩ := qx.loc_inv
        split at f
        · rename_i xs hm
          obtain ⟨r1, x1, q1⟩ := rp.done hm hb
          exact f _ _ _ r1 x1 q1
        · exact f.elim
      · exact f.elim
    exact h2
theorem z_cmp {op : Cop} (hu : X.A.units + 65 < cLine) (ha : PE X pa (zE X ca W C a)) (hb : PE X pb (zE X ca W C b)) (hp : plainX pb = true) : PE X (.Compare pa [copOf op] [pb] pos) (zE X ca W C (.cmp op a b)) :=
  pe_imp (pe_cmpR (op_cmpZ hu op) ha hb (mark_plain hp)) fun σ H Q h => rd2 (R := fun Q x y H => rCmpZ X.K op x y H Q) h fun ρ M H x y dx dy rp qx qy f => by
    obtain ⟨k, e, f⟩ := f.ofO
    exact cmpD_rd rp qx qy e (f.ok rp (.bl _))
theorem zt_cmp {op : Cop} (hu : X.A.units + 65 < cLine) (ha : PE X pa (zE X ca W C a)) (hb : PE X pb (zE X ca W C b)) (hp : plainX pb = true) : PT X (.Compare pa [copOf op] [pb] pos) (zT X ca W C (.cmp op a b)) := by
  refine pt_imp (pt_cmpR (op_cmpZ hu op) ha hb (mark_plain hp)) fun σ H Q h => ?_
  obtain ⟨ρ, env, M, rp, re, f⟩ := h
  have h2 : rd X.K ca (rDD X.K) W (fun env M => evE C (.cmp op a b) env M) σ H fun x H' => ∃ k, x = .bl k ∧ Q k H' := by
    refine ⟨ρ, env, M, rp, re, (f.bind (R1 := rDD X.K)).imp ?_⟩
    rintro x H1 ⟨ρ1, M1, d1, rp1, x1, q1, f1⟩
    cases d1 <;> first | exact f1.elim | skip
    exact ⟨_, q1.bl_inv, f1.ok rp1 rfl⟩
  exact rd2 (R := fun Q x y H => rCmpZ X.K op x y H Q) h2 fun ρ M H x y dx dy rp qx qy f => by
    obtain ⟨k, e, f⟩ := f.ofO
    exact cmpD_rd rp qx qy e (f.ok rp (.bl _))
/-- a test of a value that is True or False -/
theorem zt_val (ha : PE X pa (zE X ca W C a)) (ht : testX pa = true) : PT X pa (zT X ca W C a) :=
  pt_imp (pt_val ha (test_plain ht)) fun σ H Q ⟨ρ, env, M, rp, re, f⟩ => ⟨ρ, env, M, rp, re, (f.bind (R1 := rDD X.K)).imp fun x H1 ⟨ρ1, M1, d1, rp1, x1, q1, f1⟩ => by
    cases d1 <;> first | exact f1.elim | skip
    exact ⟨_, q1.bl_inv, f1.ok rp1 rfl⟩⟩
theorem chain_tail {o1 o2 : Cop} {σ : L2.St} {H : Hp} {Q : VK} (h : zE X ca W C (.chain o1 o2 a b c) σ H Q) : tChain (rCmpZ X.K o1) (rCmpZ X.K o2) (zE X ca W C a) (zE X ca W C b) (zE X ca W C c) σ H Q := by
  obtain ⟨ρ, env, M, rp, re, f⟩ := h
  refine ⟨ρ, env, M, rp, re, (Fi.bind (R1 := rDD X.K) (show Fi X.K ca (rDD X.K) W σ ρ M H ((evE C a env M).bind _) Q from f)).imp ?_⟩
  rintro x H1 ⟨ρ1, M1, d1, rp1, x1, q1, f1⟩
  refine ⟨ρ1, env, M1, rp1, re.ext x1, (f1.bind (R1 := rDD X.K)).imp ?_⟩
  rintro y H2 ⟨ρ2, M2, d2, rp2, x2, q2, f2⟩
  obtain ⟨k, e, f2⟩ := f2.ofO
  refine cmpD_rd rp2 (RD.ext x2 q1) q2 e ⟨k, rfl, ?_⟩
  cases k with
  | true =>
    rw [if_pos rfl] at f2 ⊢
    refine ⟨ρ2, env, M2, rp2, (re.ext x1).ext x2, (f2.bind (R1 := rDD X.K)).imp ?_⟩
    rintro z H3 ⟨ρ3, M3, d3, rp3, x3, q3, f3⟩
    obtain ⟨k2, e2, f3⟩ := f3.ofO
    exact cmpD_rd rp3 (RD.ext x3 q2) q3 e2 (f3.ok rp3 (.bl _))
  | false =>
    rw [if_neg Bool.false_ne_true] at f2 ⊢
    exact f2.ok rp2 (.bl _)
end
end Z


/-! Z7: rules for expressions, second part. -/
namespace Z
open PySem L2 PySem.Spec PyProof.Rows

theorem bind_assoc {α β γ : Type} (r : Res α) (f : α → Sto → Res β) (g : β → Sto → Res γ) : (r.bind f).bind g = r.bind fun a M => (f a M).bind g := by cases r <;> rfl
theorem Fi.bindE {α β γ δ : Type} {K : PySem.W.Frag} {ca : String → Addr} {R : Rl α β} {R1 : Rl γ δ} {W : WX} {σ : L2.St} {ρ : Pl} {M : Sto} {H : Hp} {Q : β → Hp → Prop} {r : Res γ} {f : γ → Sto → Res α} (h : Fi K ca R W σ ρ M H (r.bind f) Q) :
    Fi K ca R1 W σ ρ M H r fun b H1 => ∃ ρ1 M1 a, r = .ok a M1 ∧ Rep K ρ1 M1 H1 ∧ Ext ρ M H ρ1 M1 H1 ∧ R1 H1 (Al ρ1 M1) ρ1 a b ∧ Fi K ca R W σ ρ1 M1 H1 (f a M1) Q := by
  cases r with
  | ok a M' => exact fun ρ' H' b r1 x1 q => ⟨ρ', M', a, rfl, r1, x1, q, Fi.go x1 h⟩
  | exc c p M' => exact fun ρ' H' cv dd r1 x1 q => h ρ' H' cv dd r1 x1 q
  | fail => exact h
def Es.len : Es → Nat
  | .nil => 0
  | .cons _ r => r.len + 1
theorem evEs_len {C : Calls} : ∀ {es : Es} {env : En} {M M' : Sto} {ds : List D}, evEs C es env M = .ok ds M' → ds.length = es.len
  | .nil, env, M, M', ds, h => by rw [evEs] at h; cases h; rfl
  | .cons e r, env, M, M', ds, h => by
    rw [evEs] at h
    cases h1 : evE C e env M with
    | ok a M1 =>
      rw [h1, bind_ok] at h
      cases h2 : evEs C r env M1 with
      | ok xs M2 => rw [h2, bind_ok] at h; cases h; rw [List.length_cons, evEs_len h2, Es.len]
      | exc _ _ _ => rw [h2] at h; cases h
      | fail => rw [h2] at h; cases h
    | exc _ _ _ => rw [h1] at h; cases h
    | fail => rw [h1] at h; cases h
section
variable {X : Cx} {ca : String → Addr} {W : WX} {C : Calls} {a b c : E} {pa pb pc : Expr} {pos : Pos} {es : Es} {ps : List Expr}
/-- a value that is True or False -/
theorem z_bl_of {Q : Bool → Hp → Prop} {σ : L2.St} {H : Hp} (h : zT X ca W C a σ H Q) : zE X ca W C a σ H fun x H' => ∃ k, x = .bl k ∧ Q k H' := by
  obtain ⟨ρ, env, M, rp, re, f⟩ := h
  refine ⟨ρ, env, M, rp, re, (f.bind (R1 := rDD X.K)).imp ?_⟩
  rintro x H1 ⟨ρ1, M1, d1, rp1, x1, q1, f1⟩
  cases d1 <;> first | exact f1.elim | skip
  exact ⟨_, q1.bl_inv, f1.ok rp1 rfl⟩
theorem z_chain {o1 o2 : Cop} (hu : X.A.units + 65 < cLine) (ha : PE X pa (zE X ca W C a)) (hb : PE X pb (zE X ca W C b)) (hc : PE X pc (zE X ca W C c)) (hp : plainX pc = true) :
    PE X (.Compare pa [copOf o1, copOf o2] [pb, pc] pos) (zE X ca W C (.chain o1 o2 a b c)) :=
  pe_imp (pe_chain (op_cmpZ hu o1) (op_cmpZ hu o2) ha hb hc (mark_plain hp)) fun σ H Q h => chain_tail h
theorem zt_chain {o1 o2 : Cop} (hu : X.A.units + 65 < cLine) (ha : PE X pa (zE X ca W C a)) (hb : PE X pb (zE X ca W C b)) (hc : PE X pc (zE X ca W C c)) (hp : plainX pc = true) :
    PT X (.Compare pa [copOf o1, copOf o2] [pb, pc] pos) (zT X ca W C (.chain o1 o2 a b c)) :=
  pt_imp (pt_chain (op_cmpZ hu o1) (op_cmpZ hu o2) ha hb hc (mark_plain hp)) fun σ H Q h => chain_tail (z_bl_of h)
theorem z_isN {j : Nat} {p2 : Pos} (ha : PE X pa (zE X ca W C a)) : PE X (.Compare pa [.Is] [.Constant .none j p2] pos) (zE X ca W C (.isN false a)) :=
  pe_imp (pe_cmp (pc_isN ha)) fun σ H Q h => rd1 (R := fun Q x H => Q (.bl (decide (x = .non))) H) h fun ρ M H x dx rp qx f => by
    cases qx <;> exact f.ok rp (.bl _)
theorem z_notN {j : Nat} {p2 : Pos} (ha : PE X pa (zE X ca W C a)) : PE X (.Compare pa [.IsNot] [.Constant .none j p2] pos) (zE X ca W C (.isN true a)) :=
  pe_imp (pe_cmp (pc_notN ha)) fun σ H Q h => rd1 (R := fun Q x H => Q (.bl (!decide (x = .non))) H) h fun ρ M H x dx rp qx f => by
    cases qx <;> exact f.ok rp (.bl _)
theorem zt_isN {j : Nat} {p2 : Pos} (ha : PE X pa (zE X ca W C a)) : PT X (.Compare pa [.Is] [.Constant .none j p2] pos) (zT X ca W C (.isN false a)) :=
  pt_imp (pt_cmp (pc_isN ha)) fun σ H Q h => rd1 (R := fun Q x H => Q (.bl (decide (x = .non))) H) (z_bl_of h) fun ρ M H x dx rp qx f => by
    cases qx <;> exact f.ok rp (.bl _)
theorem zt_notN {j : Nat} {p2 : Pos} (ha : PE X pa (zE X ca W C a)) : PT X (.Compare pa [.IsNot] [.Constant .none j p2] pos) (zT X ca W C (.isN true a)) :=
  pt_imp (pt_cmp (pc_notN ha)) fun σ H Q h => rd1 (R := fun Q x H => Q (.bl (!decide (x = .non))) H) (z_bl_of h) fun ρ M H x dx rp qx f => by
    cases qx <;> exact f.ok rp (.bl _)
/-- is True, is False -/
def rIsZ (b : Bool) : R2 := fun x y H Q => y = .bl b ∧ Q (.bl (decide (x = .bl b))) H
def rNotZ (b : Bool) : R2 := fun x y H Q => y = .bl b ∧ Q (.bl (!decide (x = .bl b))) H
theorem relbl {x : V} {v : Value} (r : RelV x v) (b : Bool) : (v == Value.bool b) = decide (x = .bl b) := by
  cases x with
  | bl c => cases (show v = Value.bool c from r); cases b <;> cases c <;> rfl
  | non => cases r; rfl
  | int _ => obtain ⟨t, rfl⟩ := r; rfl
  | str _ => obtain ⟨t, rfl⟩ := r; rfl
  | byt _ => obtain ⟨t, rfl⟩ := r; rfl
  | flt _ => obtain ⟨t, rfl⟩ := r; rfl
  | ref _ => cases r; rfl
  | ty _ => cases r; rfl
theorem op_isZ {b : Bool} : OpR X (compareOp .Is) (rIsZ b) := by
  intro pins s σ H x y v u Q I rx ry h
  obtain ⟨rfl, q⟩ := h
  cases (show u = Value.bool b from ry)
  have hz := relbl rx b
  rw [← hz] at q
  have key : wpAny (model X.prog X.w) X.A (compareOp .Is v (.bool b)) (fun r s' => r = .bool (v == .bool b) ∧ s' = s) X.xe s := by
    cases x <;> first | (cases rx; refine wpAny_pure ?_; exact ⟨rfl, rfl⟩) | (obtain ⟨t, rfl⟩ := rx; refine wpAny_pure ?_; exact ⟨rfl, rfl⟩)
  refine thn key ?_
  rintro r s' ⟨rfl, rfl⟩
  exact ⟨.bl _, H, I, rfl, q⟩
theorem op_notZ {b : Bool} : OpR X (compareOp .IsNot) (rNotZ b) := by
  intro pins s σ H x y v u Q I rx ry h
  obtain ⟨rfl, q⟩ := h
  cases (show u = Value.bool b from ry)
  have hz := relbl rx b
  rw [← hz] at q
  have key : wpAny (model X.prog X.w) X.A (compareOp .IsNot v (.bool b)) (fun r s' => r = .bool (!(v == .bool b)) ∧ s' = s) X.xe s := by
    cases x <;> first | (cases rx; refine wpAny_pure ?_; exact ⟨rfl, rfl⟩) | (obtain ⟨t, rfl⟩ := rx; refine wpAny_pure ?_; exact ⟨rfl, rfl⟩)
  refine thn key ?_
  rintro r s' ⟨rfl, rfl⟩
  exact ⟨.bl _, H, I, rfl, q⟩
theorem z_isB {b : Bool} {j : Nat} {p2 : Pos} (ha : PE X pa (zE X ca W C a)) : PE X (.Compare pa [.Is] [.Constant (.bool b) j p2] pos) (zE X ca W C (.isB false b a)) :=
  pe_imp (pe_cmpR (op_isZ (b := b)) ha pe_bl (mark_plain rfl)) fun σ H Q h => rd1 (R := fun Q x H => rIsZ b x (.bl b) H Q) h fun ρ M H x dx rp qx f => by
    refine ⟨rfl, ?_⟩
    cases qx <;> first | exact f.ok rp (.bl _) | skip
    rename_i c
    have f := f.ok rp (.bl _)
    cases c <;> cases b <;> exact f
theorem z_notB {b : Bool} {j : Nat} {p2 : Pos} (ha : PE X pa (zE X ca W C a)) : PE X (.Compare pa [.IsNot] [.Constant (.bool b) j p2] pos) (zE X ca W C (.isB true b a)) :=
  pe_imp (pe_cmpR (op_notZ (b := b)) ha pe_bl (mark_plain rfl)) fun σ H Q h => rd1 (R := fun Q x H => rNotZ b x (.bl b) H Q) h fun ρ M H x dx rp qx f => by
    refine ⟨rfl, ?_⟩
    cases qx <;> first | exact f.ok rp (.bl _) | skip
    rename_i c
    have f := f.ok rp (.bl _)
    cases c <;> cases b <;> exact f
theorem zt_isB {b : Bool} {j : Nat} {p2 : Pos} (ha : PE X pa (zE X ca W C a)) : PT X (.Compare pa [.Is] [.Constant (.bool b) j p2] pos) (zT X ca W C (.isB false b a)) :=
  pt_imp (pt_cmpR (op_isZ (b := b)) ha pe_bl (mark_plain rfl)) fun σ H Q h => rd1 (R := fun Q x H => rIsZ b x (.bl b) H Q) (z_bl_of h) fun ρ M H x dx rp qx f => by
    refine ⟨rfl, ?_⟩
    cases qx <;> first | exact f.ok rp (.bl _) | skip
    rename_i c
    have f := f.ok rp (.bl _)
    cases c <;> cases b <;> exact f
theorem zt_notB {b : Bool} {j : Nat} {p2 : Pos} (ha : PE X pa (zE X ca W C a)) : PT X (.Compare pa [.IsNot] [.Constant (.bool b) j p2] pos) (zT X ca W C (.isB true b a)) :=
  pt_imp (pt_cmpR (op_notZ (b := b)) ha pe_bl (mark_plain rfl)) fun σ H Q h => rd1 (R := fun Q x H => rNotZ b x (.bl b) H Q) (z_bl_of h) fun ρ M H x dx rp qx f => by
    refine ⟨rfl, ?_⟩
    cases qx <;> first | exact f.ok rp (.bl _) | skip
    rename_i c
    have f := f.ok rp (.bl _)
    cases c <;> cases b <;> exact f
/-! ### and, or, not -/
def bopB : Bool → BoolOp
  | true => .And
  | false => .Or
abbrev zB (X : Cx) (ca : String → Addr) (W : WX) (C : Calls) (k : Bool) (es : Es) : TE := rd X.K ca (rDD X.K) W fun env M => evBoo C k es env M
abbrev zBT (X : Cx) (ca : String → Addr) (W : WX) (C : Calls) (k : Bool) (es : Es) : TT := rd X.K ca rId W fun env M => (evBoo C k es env M).bind fun x M1 => ofO (asB x) M1
theorem z_boo1 {k : Bool} {op : BoolOp} (ha : PE X pa (zE X ca W C a)) : PE X (.BoolOp op [pa] pos) (zB X ca W C k (.cons a .nil)) :=
  pe_imp (pe_one ha) fun σ H Q ⟨ρ, env, M, rp, re, f⟩ => ⟨ρ, env, M, rp, re, by dsimp only [evBoo] at f; exact f⟩
theorem z_boo2 {k : Bool} {e2 : E} {r : Es} {q : Expr} {qs : List Expr} (ha : PE X pa (zE X ca W C a)) (hr : PE X (.BoolOp (bopB k) (q :: qs) pos) (zB X ca W C k (.cons e2 r))) :
    PE X (.BoolOp (bopB k) (pa :: q :: qs) pos) (zB X ca W C k (.cons a (.cons e2 r))) := by
  have main : ∀ σ H Q, zB X ca W C k (.cons a (.cons e2 r)) σ H Q → zE X ca W C a σ H fun x H1 => ∃ c, x = .bl c ∧ if c = k then zB X ca W C k (.cons e2 r) σ H1 Q else Q (.bl (!k)) H1 := by
    intro σ H Q ⟨ρ, env, M, rp, re, f⟩
    dsimp only [evBoo] at f
    refine ⟨ρ, env, M, rp, re, (f.bind (R1 := rDD X.K)).imp ?_⟩
    rintro x H1 ⟨ρ1, M1, d1, rp1, x1, q1, f1⟩
    obtain ⟨b, e, f2⟩ := f1.ofO
    cases d1 <;> cases e
    refine ⟨_, q1.bl_inv, ?_⟩
    by_cases hk : b = k
    · subst hk
      rw [if_pos (by simp)] at f2
      rw [if_pos rfl]
      exact ⟨ρ1, env, M1, rp1, re.ext x1, f2⟩
    · rw [if_neg (by simpa using hk)] at f2
      rw [if_neg hk]
      exact f2.ok rp1 (.bl _)
  cases k with
  | true => exact pe_imp (pe_and ha hr) fun σ H Q h => main σ H Q h
  | false =>
    refine pe_imp (pe_or ha hr) fun σ H Q h => ?_
    obtain ⟨ρ, env, M, rp, re, f⟩ := main σ H Q h
    refine ⟨ρ, env, M, rp, re, f.imp fun x H1 ⟨c, e, z⟩ => ⟨c, e, ?_⟩⟩
    cases c with
    | true => rw [if_neg (by decide)] at z; rw [if_pos rfl]; exact z
    | false => rw [if_pos rfl] at z; rw [if_neg (by decide)]; exact z
theorem zw_boo1 {k : Bool} (ha : PT X pa (zT X ca W C a)) : PW X (.BoolOp (bopB k) [pa] pos) (zBT X ca W C k (.cons a .nil)) := by
  have i : ∀ σ H Q, zBT X ca W C k (.cons a .nil) σ H Q → zT X ca W C a σ H Q := fun σ H Q ⟨ρ, env, M, rp, re, f⟩ => ⟨ρ, env, M, rp, re, by dsimp only [evBoo] at f; exact f⟩
  cases k with
  | true => exact ⟨fun wh pins s σ H Q I h => (pw_and1 ha).run wh pins s σ H Q I (i _ _ _ h)⟩
  | false => exact ⟨fun wh pins s σ H Q I h => (pw_or1 ha).run wh pins s σ H Q I (i _ _ _ h)⟩
theorem zw_boo2 {k : Bool} {e2 : E} {r : Es} {q : Expr} {qs : List Expr} (ha : PT X pa (zT X ca W C a)) (hr : PW X (.BoolOp (bopB k) (q :: qs) pos) (zBT X ca W C k (.cons e2 r))) :
    PW X (.BoolOp (bopB k) (pa :: q :: qs) pos) (zBT X ca W C k (.cons a (.cons e2 r))) := by
  have main : ∀ σ H Q, zBT X ca W C k (.cons a (.cons e2 r)) σ H Q → zT X ca W C a σ H fun c H1 => if c = k then zBT X ca W C k (.cons e2 r) σ H1 Q else Q (!k) H1 := by
    intro σ H Q ⟨ρ, env, M, rp, re, f⟩
    dsimp only [evBoo] at f
    rw [bind_assoc] at f
    simp only [bind_assoc] at f
    rw [← bind_assoc] at f
    refine ⟨ρ, env, M, rp, re, (f.bind (R1 := rId)).imp ?_⟩
    rintro c H1 ⟨ρ1, M1, b, rp1, x1, q1, f1⟩
    cases q1
    by_cases hk : c = k
    · subst hk
      rw [if_pos (by simp)] at f1
      rw [if_pos rfl]
      exact ⟨ρ1, env, M1, rp1, re.ext x1, f1⟩
    · rw [if_neg (by simpa using hk)] at f1
      rw [if_neg hk]
      exact f1.ok rp1 rfl
  cases k with
  | true => exact ⟨fun wh pins s σ H Q I h => (pw_and ha hr).run wh pins s σ H Q I (main _ _ _ h)⟩
  | false =>
    refine ⟨fun wh pins s σ H Q I h => (pw_or ha hr).run wh pins s σ H Q I ?_⟩
    obtain ⟨ρ, env, M, rp, re, f⟩ := main σ H Q h
    refine ⟨ρ, env, M, rp, re, f.imp fun c H1 z => ?_⟩
    cases c with
    | true => rw [if_neg (by decide)] at z; rw [if_pos rfl]; exact z
    | false => rw [if_pos rfl] at z; rw [if_neg (by decide)]; exact z
theorem z_not (ha : PE X pa (zE X ca W C a)) : PE X (.UnaryOp .Not pa pos) (zE X ca W C (.not a)) :=
  pe_imp (pe_not ha) fun σ H Q h => rd1 (R := fun Q x H => ∃ c, x = .bl c ∧ Q (.bl (!c)) H) h fun ρ M H x dx rp qx f => by
    obtain ⟨b, e, f2⟩ := f.ofO
    cases dx <;> cases e
    exact ⟨_, qx.bl_inv, f2.ok rp (.bl _)⟩
theorem zt_not (ha : PT X pa (zT X ca W C a)) : PT X (.UnaryOp .Not pa pos) (zT X ca W C (.not a)) :=
  pt_imp (pt_not ha) fun σ H Q ⟨ρ, env, M, rp, re, f⟩ => by
    dsimp only [evE] at f
    rw [bind_assoc] at f
    simp only [bind_assoc] at f
    rw [← bind_assoc] at f
    refine ⟨ρ, env, M, rp, re, (f.bind (R1 := rId)).imp ?_⟩
    rintro c H1 ⟨ρ1, M1, b, rp1, x1, q1, f1⟩
    cases q1
    exact f1.ok rp1 rfl
theorem z_ite (hc : PT X pc (zT X ca W C c)) (ha : PE X pa (zE X ca W C a)) (hb : PE X pb (zE X ca W C b)) : PE X (.IfExp pc pa pb pos) (zE X ca W C (.ite c a b)) :=
  pe_imp (pe_ifExp hc ha hb) fun σ H Q ⟨ρ, env, M, rp, re, f⟩ => by
    dsimp only [evE] at f
    rw [← bind_assoc] at f
    refine ⟨ρ, env, M, rp, re, (f.bind (R1 := rId)).imp ?_⟩
    rintro k H1 ⟨ρ1, M1, b, rp1, x1, q1, f1⟩
    cases q1
    cases k with
    | true => rw [if_pos rfl] at f1 ⊢; exact ⟨ρ1, env, M1, rp1, re.ext x1, f1⟩
    | false => rw [if_neg (by decide)] at f1 ⊢; exact ⟨ρ1, env, M1, rp1, re.ext x1, f1⟩
/-! ### displays -/
theorem za_nil : PA X [] (zEs X ca W C .nil) := pa_imp pa_nil fun σ H Q ⟨ρ, env, M, rp, re, f⟩ => by
  dsimp only [evEs] at f; exact Fi.ok (R := rDs X.K) rp .nil f
theorem za_cons (hp : plainX pa = true) (ha : PE X pa (zE X ca W C a)) (hr : PA X ps (zEs X ca W C es)) : PA X (pa :: ps) (zEs X ca W C (.cons a es)) :=
  pa_imp (pa_cons ha hr (starEach_plain hp)) fun σ H Q ⟨ρ, env, M, rp, re, f⟩ => by
    dsimp only [evEs] at f
    refine ⟨ρ, env, M, rp, re, (f.bind (R1 := rDD X.K)).imp ?_⟩
    rintro x H1 ⟨ρ1, M1, d1, rp1, x1, q1, f1⟩
    refine ⟨ρ1, env, M1, rp1, re.ext x1, (f1.bind (R1 := rDs X.K)).imp ?_⟩
    rintro xs H2 ⟨ρ2, M2, d2, rp2, x2, q2, f2⟩
    exact f2.ok rp2 (.cons (RD.ext x2 q1) q2)
theorem z_tup {k : Nat} (hl : fitLen es.len = true) (h : PA X ps (zEs X ca W C es)) : PE X (.Tuple ps k pos) (zE X ca W C (.tup es)) :=
  pe_imp (pe_tupF h) fun σ H Q ⟨ρ, env, M, rp, re, f⟩ => by
    dsimp only [evE] at f
    refine ⟨ρ, env, M, rp, re, (f.bindE (R1 := rDs X.K)).imp ?_⟩
    rintro xs H1 ⟨ρ1, M1, d1, e1, rp1, x1, q1, f1⟩
    have hz : xs.length ≤ sizeLine := by rw [← q1.length, evEs_len e1]; exact sz_of hl
    refine ⟨hz, fun p o ho hp => ?_⟩
    obtain ⟨rp2, x2, q2⟩ := rp1.newT hp ho hz q1
    exact f1 _ _ _ rp2 x2 q2
theorem starD_rd {x y : D} {vx vy : V} {σ : L2.St} {ρ : Pl} {M : Sto} {H : Hp} {Q : VK} {K : PySem.W.Frag} {ca : String → Addr} {W : WX} (rp : Rep K ρ M H) (qx : RD K H (Al ρ M) ρ x vx) (qy : RD K H (Al ρ M) ρ y vy) (f : Fi K ca (rDD K) W σ ρ M H (starD x y M) Q) :
    ∃ a vs, vy = .ref a ∧ (SqT K H a vs ∨ SqL K H a vs) ∧ (vx :: vs).length ≤ sizeLine ∧ ∀ (p : Addr) (o : Obj), o.dict = none → H p = none → Q (.ref p) (upd H p (.frz o (.tup (vx :: vs)))) := by
  unfold starD at f
  split at f
  · obtain ⟨a, vs, rfl, h1, hn, h2, h3⟩ := qy.lst_inv
    obtain ⟨c, f⟩ := f.ite
    have c := sz_of c
    rw [h3.length] at c
    refine ⟨a, vs, rfl, .inr (.of h1), c, fun p o ho hp => ?_⟩
    obtain ⟨r1, x1, q1⟩ := rp.newT hp ho (vs := vx :: vs) c (.cons qx h3)
    exact (f.go x1).ok r1 q1
  · obtain ⟨a, vs, rfl, h1, h2, h3⟩ := qy.tup_inv
    obtain ⟨c, f⟩ := f.ite
    have c := sz_of c
    rw [h3.length] at c
    refine ⟨a, vs, rfl, .inl h1, c, fun p o ho hp => ?_⟩
    obtain ⟨r1, x1, q1⟩ := rp.newT hp ho (vs := vx :: vs) c (.cons qx h3)
    exact (f.go x1).ok r1 q1
  · exact f.elim
theorem z_tstar {k : Nat} {sp : Pos} (hp : plainX pa = true) (ha : PE X pa (zE X ca W C a)) (hb : PE X pb (zE X ca W C b)) : PE X (.Tuple [pa, .Starred pb sp] k pos) (zE X ca W C (.tstar a b)) :=
  pe_imp (pe_tupF (pa_cons ha (StX.pa_star (p := sp) hb pa_nil) (starEach_plain hp))) fun σ H Q ⟨ρ, env, M, rp, re, f⟩ => by
    dsimp only [evE] at f
    refine ⟨ρ, env, M, rp, re, (f.bind (R1 := rDD X.K)).imp ?_⟩
    rintro x H1 ⟨ρ1, M1, d1, rp1, x1, q1, f1⟩
    refine ⟨ρ1, env, M1, rp1, re.ext x1, (f1.bind (R1 := rDD X.K)).imp ?_⟩
    rintro y H2 ⟨ρ2, M2, d2, rp2, x2, q2, f2⟩
    obtain ⟨l, vs, e, h1, h2, h3⟩ := starD_rd rp2 (RD.ext x2 q1) q2 f2
    refine ⟨l, vs, e, h1, ?_⟩
    show (x :: (vs ++ [])).length ≤ sizeLine ∧ ∀ (p : Addr) (o : Obj), o.dict = none → H2 p = none → Q (.ref p) (upd H2 p (.frz o (.tup (x :: (vs ++ [])))))
    rw [List.append_nil]
    exact ⟨h2, h3⟩
theorem z_lst {m : Bool} (hl : fitLen es.len = true) (h : PA X ps (zEs X ca W C es)) : PE X (.List ps pos) (zE X ca W C (.lst m es)) :=
  pe_imp (pe_lst h) fun σ H Q ⟨ρ, env, M, rp, re, f⟩ => by
    dsimp only [evE] at f
    refine ⟨ρ, env, M, rp, re, (f.bindE (R1 := rDs X.K)).imp ?_⟩
    rintro xs H1 ⟨ρ1, M1, d1, e1, rp1, x1, q1, f1⟩
    have hz : xs.length ≤ sizeLine := by rw [← q1.length, evEs_len e1]; exact sz_of hl
    exact ⟨hz, newList_rd rp1 q1 hz f1⟩
theorem z_dic0 : PE X (.Dict [] [] pos) (zE X ca W C .dic0) :=
  pe_imp pe_dnewK fun σ H Q ⟨ρ, env, M, rp, re, f⟩ => by
    intro p hp
    dsimp only [evE] at f
    obtain ⟨rp2, x2, q2⟩ := rp.newD (xs := []) (vs := []) hp (Nat.zero_le _) .nil
    exact f _ _ _ rp2 x2 (.loc q2)
end
end Z


/-! Z8: rules for expressions, third part: places, slices, calls. -/
namespace Z
open PySem L2 PySem.Spec PyProof.Rows

theorem wpAny_self {α : Type} {M : Model} {A : Around} {t : Sem α} {Q : α → Shared → Prop} {E : Value → Shared → Prop} {s : Shared} (h : wpAny M A t Q E s) : wpAny M A t Q E s := h
/-! ### places -/
theorem ix_dict {X : Cx} (hu : X.A.units + 1 < cLine) : IxR X (fun x y H Q => ∃ a v, x = .ref a ∧ DGet H a y (some v) ∧ Q v H) := by
  intro value slice pins s σ H x y v u Q I rx ry h hs
  obtain ⟨a, z, rfl, g, q⟩ := h
  obtain rfl : v = Value.ref a := rx
  exact tail_any (dict_typeIs I g) PySem.F.slot_dict_getitem.lookup (d_getItem hu I g ry fun w' s3 I3 rw' => ⟨z, H, I3, rw', q⟩) hs
def rIxZ (K : PySem.W.Frag) : R2 := fun x y H Q => rIx K x y H Q ∨ ∃ a v, x = .ref a ∧ DGet H a y (some v) ∧ Q v H
theorem atI_rd {K : PySem.W.Frag} {H : Hp} {al : Addr → Prop} {ρ : Pl} {xs : List D} {vs : List V} {i : Int} {d : D} (r : RDs K H al ρ xs vs) (e : itemAt xs i = some d) : ∃ v, atI vs i = some v ∧ RD K H al ρ d v := by
  have hl := r.length
  unfold itemAt atI at *
  rw [← hl]
  cases h : ixN xs.length i with
  | none => rw [h] at e; cases e
  | some j =>
    rw [h] at e
    exact r.get e
section
variable {K : PySem.W.Frag} {ca : String → Addr} {W : WX} {σ : L2.St} {ρ : Pl} {M : Sto} {H : Hp} {Q : VK} {x y : V} {dx dy d : D}
theorem getK_rd {kvs : List (Key × D)} {ws : List (Key × V)} {k : Key} {al : Addr → Prop} (r : RKs K H al ρ kvs ws) (e : getK kvs k = some d) : ∃ v, valV ws k = some v ∧ RD K H al ρ d v := by
  rcases keys_get k r with ⟨h1, h2⟩ | ⟨d', v, h1, h2, h3⟩
  · rw [e] at h1; cases h1
  · rw [e] at h1; cases h1; exact ⟨v, h2, h3⟩
theorem idxD_rd (rp : Rep K ρ M H) (qx : RD K H (Al ρ M) ρ dx x) (qy : RD K H (Al ρ M) ρ dy y) (e : idxD M dx dy = some d) (q : ∀ v, RD K H (Al ρ M) ρ d v → Q v H) : rIxZ K x y H Q := by
  unfold idxD at e
  split at e
  · rename_i s i
    split at e
    · rename_i hf
      cases h : itemAt s.cps.toList i with
      | none => rw [h] at e; cases e
      | some c =>
        rw [h] at e; cases e
        rw [qx.str_inv, qy.int_inv]
        exact .inl (.inr (.inr ⟨s, i, c, rfl, rfl, sz_of hf, h, q _ (.str _)⟩))
    · cases e
  · rename_i xs i
    obtain ⟨a, vs, rfl, h1, h2, h3⟩ := qx.tup_inv
    obtain ⟨v, g1, g2⟩ := atI_rd h3 e
    rw [qy.int_inv]
    exact .inl (.inr (.inl ⟨a, vs, i, v, rfl, rfl, h1, g1, q _ g2⟩))
  · rename_i xs i
    obtain ⟨a, vs, rfl, h1, hn, h2, h3⟩ := qx.lst_inv
    obtain ⟨v, g1, g2⟩ := atI_rd h3 e
    rw [qy.int_inv]
    exact .inl (.inl ⟨a, vs, i, v, rfl, rfl, .of h1, g1, q _ g2⟩)
  · rename_i n
    obtain ⟨a, rfl, ha⟩ := qx.loc_inv
    split at e
    · rename_i xs i hm
      obtain ⟨vs, h1, h2, h3⟩ := rp.lst_at hm ha
      obtain ⟨v, g1, g2⟩ := atI_rd h3 e
      rw [qy.int_inv]
      exact .inl (.inl ⟨a, vs, i, v, rfl, rfl, .of h1, g1, q _ g2⟩)
    · rename_i kvs s hm
      obtain ⟨vs, h1, h2, h3⟩ := rp.dct_at hm ha
      obtain ⟨v, g1, g2⟩ := getK_rd h3 e
      rw [qy.str_inv]
      exact .inr ⟨a, v, rfl, .inl ⟨vs, Sum.inr s, .inl h1, rfl, g1.symm⟩, q _ g2⟩
    · rename_i kvs s hm
      obtain ⟨vs, h1, h2, h3⟩ := rp.dct_at hm ha
      obtain ⟨v, g1, g2⟩ := getK_rd h3 e
      rw [qy.int_inv]
      exact .inr ⟨a, v, rfl, .inl ⟨vs, Sum.inl s, .inl h1, rfl, g1.symm⟩, q _ g2⟩
    · cases e
  · cases e
/-! ### slices -/
/-- t[lo:hi] of a tuple -/
def rSlF (K : PySem.W.Frag) : V → Option Int → Option Int → Hp → VK → Prop := fun x lo hi H Q => ∃ a xs, x = .ref a ∧ SqT K H a xs ∧ (HT.sIx xs.length 0 lo = 0 ∧ HT.sIx xs.length xs.length hi = xs.length → Q x H) ∧
  (¬ (HT.sIx xs.length 0 lo = 0 ∧ HT.sIx xs.length xs.length hi = xs.length) → ∀ (p : Addr) (o : Obj), o.dict = none → H p = none → Q (.ref p) (upd H p (.frz o (.tup (cutV xs lo hi)))))
theorem sl_tupF {X : Cx} : SlR X (rSlF X.K) := by
  rintro pins s σ H x v vl vu lo hi sl Q I rx hs pl pu ⟨a, xs, rfl, hx, q1, q2⟩
  cases rx
  obtain ⟨l1, r1, ht, hz⟩ := I.tuple hx
  have hl : l1.toArray.size = xs.length := by rw [List.size_toArray, r1.length]
  refine ⟨"tuple", _, slot_tuple_getitem.lookup, ht.typeIs, ?_⟩
  by_cases hw : HT.sIx xs.length 0 lo = 0 ∧ HT.sIx xs.length xs.length hi = xs.length
  · exact getItem_tuple_whole ht hs pl pu (hl ▸ hw) ⟨.ref a, H, I, rfl, q1 hw⟩
  · refine HT.getItem_tuple_cut ht hs pl pu (by rw [hl]; exact hw) ?_ (by rw [hl]; exact hz)
    rw [hl]
    refine ⟨.ref s.heap.objs.size, upd H s.heap.objs.size (.frz { cls := .type "tuple", data := .seq ((l1.drop (HT.sIx xs.length 0 lo)).take (HT.sIx xs.length xs.length hi - HT.sIx xs.length 0 lo)).toArray } (.tup (cutV xs lo hi))), ?_, rfl, q2 hw _ _ rfl (I.hok.fresh (Nat.le_refl _))⟩
    exact I.laid (t' := s.toks) (fun b u e => Heap.get?_push_of_some _ e) (Nat.le_refl _) ⟨Heap.get?_push_size _ rfl, Nat.le_trans (cutV_length xs lo hi) hz, _, (r1.drop (HT.sIx xs.length 0 lo)).take (HT.sIx xs.length xs.length hi - HT.sIx xs.length 0 lo), IsTup.new _ _⟩
def rSlZ (K : PySem.W.Frag) : V → Option Int → Option Int → Hp → VK → Prop := fun x lo hi H Q => rSlL K x lo hi H Q ∨ rSlF K x lo hi H Q ∨ rSlS x lo hi H Q
theorem cut_rd {al : Addr → Prop} {xs : List D} {vs : List V} (lo hi : Option Int) (r : RDs K H al ρ xs vs) : RDs K H al ρ (cut xs lo hi) (cutV vs lo hi) := by
  unfold cut cutV
  rw [r.length]
  exact (r.drop _).take _
theorem cutV_len {vs : List V} {lo hi : Option Int} (h : vs.length ≤ sizeLine) : (cutV vs lo hi).length ≤ sizeLine := by
  unfold cutV
  rw [List.length_take, List.length_drop]
  omega
theorem cut_all {α : Type} {xs : List α} {lo hi : Option Int} (h : HT.sIx xs.length 0 lo = 0 ∧ HT.sIx xs.length xs.length hi = xs.length) : cut xs lo hi = xs := by
  unfold cut
  rw [h.1, h.2, List.drop_zero, Nat.sub_zero, List.take_length]
theorem slcD_rd {m : Bool} {lo hi : Option Int} (rp : Rep K ρ M H) (qx : RD K H (Al ρ M) ρ dx x) (f : Fi K ca (rDD K) W σ ρ M H (slcD m dx lo hi M) Q) : rSlZ K x lo hi H Q := by
  unfold slcD at f
  split at f
  · rename_i s
    obtain ⟨c, f⟩ := f.ite
    rw [qx.str_inv]
    refine .inr (.inr ⟨s, rfl, sz_of c, ?_⟩)
    have e : (⟨(cut s.cps.toList lo hi).toArray⟩ : Str) = cutS s lo hi := by
      unfold cut cutS
      rw [show s.cps.toList.length = s.length from by rw [Array.length_toList]; rfl]
    rw [e] at f
    exact f.ok rp (.str _)
  · rename_i xs
    obtain ⟨a, vs, rfl, h1, hn, h2, h3⟩ := qx.lst_inv
    exact .inl ⟨a, vs, rfl, .of h1, newList_rd rp (cut_rd lo hi h3) (cutV_len h2) f⟩
  · rename_i xs
    obtain ⟨a, vs, rfl, h1, h2, h3⟩ := qx.scr_inv
    exact .inl ⟨a, vs, rfl, h1, newList_rd rp (cut_rd lo hi h3) (cutV_len h2) f⟩
  · rename_i xs
    obtain ⟨a, vs, rfl, h1, h2, h3⟩ := qx.tup_inv
    refine .inr (.inl ⟨a, vs, rfl, h1, fun e => ?_, fun _ p o ho hp => ?_⟩)
    · rw [cut_all (by rw [h3.length]; exact e)] at f
      exact f.ok rp qx
    · obtain ⟨r1, x1, q1⟩ := rp.newT hp ho (cutV_len h2) (cut_rd lo hi h3)
      exact (f.go x1).ok r1 q1
  · rename_i n
    obtain ⟨a, rfl, ha⟩ := qx.loc_inv
    split at f
    · rename_i xs hm
      obtain ⟨vs, h1, h2, h3⟩ := rp.lst_at hm ha
      exact .inl ⟨a, vs, rfl, .of h1, newList_rd rp (cut_rd lo hi h3) (cutV_len h2) f⟩
    · exact f.elim
  · exact f.elim
end
/-! ### functions -/
theorem Fi.sw {α β : Type} {K : PySem.W.Frag} {ca : String → Addr} {R : Rl α β} {W : WX} {σ : L2.St} {ρ : Pl} {M : Sto} {H : Hp} {Q : β → Hp → Prop} {r : Res α} (h : Fi K ca R W σ ρ M H r Q) : Fi K ca R (fun c d _ H => W c d σ H) [] ρ M H r Q := by
  cases r <;> exact h
theorem Fi.ws {α β : Type} {K : PySem.W.Frag} {ca : String → Addr} {R : Rl α β} {E : XK} {W : WX} {σ : L2.St} {ρ : Pl} {M : Sto} {H : Hp} {Q : β → Hp → Prop} {r : Res α} (h : Fi K ca R (fun c d _ H => E c d H) [] ρ M H r Q) (i : ∀ c d H, E c d H → W c d σ H) : Fi K ca R W σ ρ M H r Q := by
  cases r with
  | ok a M' => exact h
  | exc c p M' => exact fun ρ' H' cv dd r1 x1 q => i _ _ _ (h ρ' H' cv dd r1 x1 q)
  | fail => exact h
/-- what a def promises: what is reckoned of it -/
def spC (K : PySem.W.Frag) (ca : String → Addr) (C : Calls) (g : String) : Sp := fun vs H Q E => ∃ ρ M ds, Rep K ρ M H ∧ RDs K H (Al ρ M) ρ ds vs ∧ Fi K ca (rDD K) (fun c d _ H => E c d H) [] ρ M H (C g ds M) Q
/-- a def that may be called -/
def FnL (X : Cx) (ca : String → Addr) (C : Calls) (g : String) (x : Str) (ks : Option (List Str)) (k : Nat) : Prop := ∃ (f : Addr) (fd : FuncData) (ps : List Str), FnOk X.prog X.w X.K X.mg X.base (L2.CX X.prog X.w) k f fd ps (spC X.K ca C g) ∧ X.mg x = some (.ref f) ∧
  PySem.W.keepIn X.K (.ref f) = true ∧ (match ks with
    | none => Binds X.K fd ps []
    | some ks => ∀ (s : Shared) (us ws : List Value), X.K.In s.heap → ws.length = ks.length → (us ++ ws).length = ps.length → BindsTo s fd ⟨us, ks.zip ws⟩ (ps.zip (us ++ ws)))
def FnZ (X : Cx) (ca : String → Addr) (C : Calls) (g : String) (x : Str) (ks : Option (List Str)) : Prop := ∃ k, FnL X ca C g x ks k ∧ Room k X.A
section
variable {X : Cx} {ca : String → Addr} {W : WX} {C : Calls} {a b c : E} {pa pb pc : Expr} {pos : Pos} {es kes : Es} {ps : List Expr} {x : Str} {p : Pos} {g : String}
theorem z_idx (hu : X.A.units + 1 < cLine) (ha : PE X pa (zE X ca W C a)) (hb : PE X pb (zE X ca W C b)) (hp : plainX pb = true) : PE X (.Subscript pa pb pos) (zE X ca W C (.idx a b)) :=
  pe_imp (pe_ix (ix_seq.or (ix_dict hu)) ha hb (ix_plain hp)) fun σ H Q h => rd2 (R := fun Q x y H => rIxZ X.K x y H Q) h fun ρ M H x y dx dy rp qx qy f => by
    cases e : idxD M dx dy with
    | none => rw [e] at f; exact f.elim
    | some d =>
      rw [e] at f
      exact idxD_rd rp qx qy e fun v qv => f.ok rp qv
theorem zo_none : PO X none (zO X ca W C .non) := ⟨fun pins s σ H Q I h => po_none.run pins s σ H Q I (by
  obtain ⟨ρ, env, M, rp, re, f⟩ := h
  dsimp only [evO] at f
  exact Fi.ok (R := rId) rp rfl f)⟩
theorem zo_some (ha : PE X pa (zE X ca W C a)) : PO X (some pa) (zO X ca W C (.som a)) := ⟨fun pins s σ H Q I h => (po_some ha).run pins s σ H Q I (by
  obtain ⟨ρ, env, M, rp, re, f⟩ := h
  dsimp only [evO] at f
  refine ⟨ρ, env, M, rp, re, (f.bind (R1 := rDD X.K)).imp ?_⟩
  rintro x H1 ⟨ρ1, M1, d1, rp1, x1, q1, f1⟩
  cases d1 <;> first | exact f1.elim | skip
  exact ⟨_, q1.int_inv, f1.ok rp1 rfl⟩)⟩
theorem z_slc {m : Bool} {lo hi : Oe} {pl ph : Option Expr} {p2 : Pos} (ha : PE X pa (zE X ca W C a)) (hl : PO X pl (zO X ca W C lo)) (hh : PO X ph (zO X ca W C hi)) : PE X (.Subscript pa (.Slice pl ph none p2) pos) (zE X ca W C (.slc m a lo hi)) :=
  pe_imp (pe_slice (r := rSlZ X.K) (SlR.or sl_list (SlR.or sl_tupF sl_str)) ha hl hh) fun σ H Q ⟨ρ, env, M, rp, re, f⟩ => by
    dsimp only [evE] at f
    refine ⟨ρ, env, M, rp, re, (f.bind (R1 := rDD X.K)).imp ?_⟩
    rintro x H1 ⟨ρ1, M1, d1, rp1, x1, q1, f1⟩
    refine ⟨ρ1, env, M1, rp1, re.ext x1, (f1.bind (R1 := rId)).imp ?_⟩
    rintro l H2 ⟨ρ2, M2, l', rp2, x2, rfl, f2⟩
    refine ⟨ρ2, env, M2, rp2, (re.ext x1).ext x2, (f2.bind (R1 := rId)).imp ?_⟩
    rintro h H3 ⟨ρ3, M3, h', rp3, x3, rfl, f3⟩
    exact slcD_rd rp3 (RD.ext x3 (RD.ext x2 q1)) f3
theorem z_rev {m : Bool} {k : Nat} {p1 p2 p3 : Pos} (ha : PE X pa (zE X ca W C a)) : PE X (.Subscript pa (.Slice none none (some (.UnaryOp .USub (.Constant (.int 1) k p1) p2)) p3) pos) (zE X ca W C (.rev m a)) :=
  pe_imp (pe_revL ha) fun σ H Q h => rd1 (R := fun Q x H1 => ∃ a xs, x = .ref a ∧ SqL X.K H1 a xs ∧ ∀ p, H1 p = none → Q (.ref p) (upd H1 p (.lst xs.reverse))) h fun ρ M H x dx rp qx f => by
    cases dx <;> first | exact f.elim | skip
    obtain ⟨a, vs, rfl, h1, hn, h2, h3⟩ := qx.lst_inv
    exact ⟨a, vs, rfl, .of h1, newList_rd rp h3.reverse (by rw [List.length_reverse]; exact h2) f⟩
theorem callS0 {E : L2.St → XK} {k : Nat} {f : Addr} {fd : FuncData} {qs : List Str} {sp : Sp} (F : FnOk X.prog X.w X.K X.mg X.base (L2.CX X.prog X.w) k f fd qs sp) (hr : Room k X.A) (hg : Gl X x) (hm : X.mg x = some (.ref f)) (hk : PySem.W.keepIn X.K (.ref f) = true) (hb : Binds X.K fd qs []) (hx : ∀ σ, PassesAt (L2.CX X.prog X.w) X σ (E σ))
    (hdb : (x == ("__debug__" : Str)) = false) : PE X (.Call (.Name x p) [] [] pos) (tCallS sp E tNil) := by
  refine ⟨fun pins s σ H Q I h => ?_⟩
  refine wpAny_Call_Name_kw (ld_glob I hg hm ?_ hdb)
  exact PySem.W.callWith_K0 I.kIn hk (run_fnS (us := []) F hr hb (hx σ) I .nil h)
theorem z_call (tk : Takes X W) (F : FnZ X ca C g x none) (hg : Gl X x) (hdb : (x == ("__debug__" : Str)) = false) (hp : ps.all plainX = true) (ha : PA X ps (zEs X ca W C es)) (he : ps = [] → es = .nil) :
    PE X (.Call (.Name x p) ps [] pos) (zE X ca W C (.call g es)) := by
  obtain ⟨k, ⟨f, fd, qs, F, hm, hk, hb⟩, hr⟩ := F
  have fin : ∀ σ H Q, zE X ca W C (.call g es) σ H Q → zEs X ca W C es σ H fun vs H1 => spC X.K ca C g vs H1 Q (WE W σ) := by
    intro σ H Q ⟨ρ, env, M, rp, re, f⟩
    dsimp only [evE] at f
    refine ⟨ρ, env, M, rp, re, (f.bind (R1 := rDs X.K)).imp ?_⟩
    rintro xs H1 ⟨ρ1, M1, d1, rp1, x1, q1, f1⟩
    exact ⟨ρ1, M1, d1, rp1, q1, f1.sw⟩
  cases ps with
  | nil =>
    cases he rfl
    refine pe_imp (callS0 F hr hg hm hk hb (fun σ => passAt tk σ) hdb) fun σ H Q h => ?_
    obtain ⟨ρ, env, M, rp, re, f⟩ := fin σ H Q h
    dsimp only [evEs] at f
    exact Fi.ok (R := rDs X.K) rp .nil f
  | cons q qs' =>
    have hp' := hp
    rw [List.all_cons, Bool.and_eq_true] at hp'
    exact pe_imp (pe_callS F hr hg hm hk hb (fun σ => passAt tk σ) ha hdb (starEach_plain hp'.1) (backTo_plain hp'.2)) fin
/-- keywords -/
def kwsOf : List Keyword → List Expr
  | [] => []
  | k :: r => k.value :: kwsOf r
theorem zk_nil : PK X [] (zEs X ca W C .nil) := ⟨fun po pins s σ H Q I ⟨ρ, env, M, rp, re, f⟩ => pk_nil.run po pins s σ H Q I (by dsimp only [evEs] at f; exact Fi.ok (R := rDs X.K) rp .nil f)⟩
theorem zk_cons {nm : Option Str} {kp : Pos} {kws : List Keyword} (ha : PE X pa (zE X ca W C a)) (hr : PK X kws (zEs X ca W C es)) : PK X (⟨nm, pa, kp⟩ :: kws) (zEs X ca W C (.cons a es)) := ⟨fun po pins s σ H Q I ⟨ρ, env, M, rp, re, f⟩ => (pk_cons ha hr).run po pins s σ H Q I (by
  dsimp only [evEs] at f
  refine ⟨ρ, env, M, rp, re, (f.bind (R1 := rDD X.K)).imp ?_⟩
  rintro x H1 ⟨ρ1, M1, d1, rp1, x1, q1, f1⟩
  refine ⟨ρ1, env, M1, rp1, re.ext x1, (f1.bind (R1 := rDs X.K)).imp ?_⟩
  rintro xs H2 ⟨ρ2, M2, d2, rp2, x2, q2, f2⟩
  exact f2.ok rp2 (.cons (RD.ext x2 q1) q2))⟩
theorem kw_some {po : Pos} {env : Env} : ∀ {kws : List Keyword}, kws.all (·.arg.isSome) = true → (backToKw po (keywordEach kws env)).all (·.1.isSome) = true ∧ (backToKw po (keywordEach kws env)).any (·.1.isNone) = false
  | [], _ => ⟨rfl, rfl⟩
  | ⟨nm, e, kp⟩ :: r, h => by
    rw [List.all_cons, Bool.and_eq_true] at h
    obtain ⟨h1, h2⟩ := kw_some (po := po) (env := env) h.2
    refine ⟨?_, ?_⟩
    · show (nm.isSome && (backToKw po (keywordEach r env)).all (·.1.isSome)) = true
      rw [h1, show nm.isSome = true from h.1]; rfl
    · show (nm.isNone || (backToKw po (keywordEach r env)).any (·.1.isNone)) = false
      rw [h2]
      cases nm with
      | none => exact absurd h.1 (by simp)
      | some _ => rfl
theorem kw_names {po : Pos} {env : Env} : ∀ {kws : List Keyword}, (backToKw po (keywordEach kws env)).filterMap (·.1) = kws.filterMap (·.arg)
  | [] => rfl
  | ⟨nm, e, kp⟩ :: r => by
    have h := kw_names (po := po) (env := env) (kws := r)
    show List.filterMap _ ((nm, _) :: backToKw po (keywordEach r env)) = _
    rw [List.filterMap_cons, List.filterMap_cons, h]
/-- f(k = v, ..) -/
theorem z_callk {ks : List Str} {kws : List Keyword} (tk : Takes X W) (F : FnZ X ca C g x (some ks)) (hg : Gl X x) (hdb : (x == ("__debug__" : Str)) = false) (hp : ps.all plainX = true) (ha : PA X ps (zEs X ca W C es)) (he : ps = [] → es = .nil)
    (hk : PK X kws (zEs X ca W C kes)) (hs : kws.all (·.arg.isSome) = true) (hks : kws.filterMap (·.arg) = ks) (hl : kes.len = ks.length) {kn : List String} :
    PE X (.Call (.Name x p) ps kws pos) (zE X ca W C (.callk g es kn kes)) := by
  obtain ⟨k, ⟨f, fd, qs, F, hm, hkp, hb⟩, hr⟩ := F
  have go : ∀ {pins : List (Addr × Obj)} {s : Shared} {σ : L2.St} {H : Hp} {us : List Value} {vs : List V} {Q : VK} {ρ : Pl} {M : Sto} {env : En} {ds : List D}, Inv X pins σ H s → Vals vs us → Rep X.K ρ M H → RE X.K ρ M H env σ → RDs X.K H (Al ρ M) ρ ds vs →
      Fi X.K ca (rDD X.K) W σ ρ M H ((evEs C kes env M).bind fun ys M2 => C g (ds ++ ys) M2) Q →
      wpAny (model X.prog X.w) X.A (evalAll ((backToKw pos (keywordEach kws X.env)).map (·.2))) (fun ws s₂ => X.K.In s₂.heap ∧ wpAny (model X.prog X.w) X.A (call (.ref f) us (((backToKw pos (keywordEach kws X.env)).filterMap (·.1)).zip ws)) (EP X pins σ Q) X.xe s₂) X.xe s := by
    intro pins s σ H us vs Q ρ M env ds I rv rp re rd f
    refine thn (hk.run pos pins s σ H (fun zs H2 => zs.length = kes.len ∧ spC X.K ca C g (vs ++ zs) H2 Q (WE W σ)) I ⟨ρ, env, M, rp, re, (f.bindE (R1 := rDs X.K)).imp ?_⟩) fun ws s2 ⟨zs, H2, I2, rz, hz, h⟩ => ⟨I2.kIn, ?_⟩
    · rintro ys H2 ⟨ρ2, M2, d2, e2, rp2, x2, q2, f2⟩
      exact ⟨by rw [← q2.length]; exact evEs_len e2, ρ2, M2, ds ++ d2, rp2, (RDs.ext x2 rd).append q2, f2.sw⟩
    · rw [kw_names, hks]
      have r2 : Vals (vs ++ zs) (us ++ ws) := rv.append rz
      have hlen : (us ++ ws).length = qs.length := by rw [← r2.length]; exact F.len _ _ _ _ h
      have hw : ws.length = ks.length := by rw [← rz.length, hz, hl]
      refine wpAny_call (codeAny_mono (F.run X.A X.stack s2 H2 ⟨us, ks.zip ws⟩ (us ++ ws) (vs ++ zs) Q (WE W σ) hr I2.env0 (hb s2 us ws I2.kIn hw hlen) r2 h) fun r s' hq => ?_)
      cases r with
      | error e => exact passAt tk σ pins H2 s2 e s' I2 hq
      | ok fl =>
        cases fl with
        | ret u => exact I2.after hq
        | next => exact False.elim hq
        | brk => exact False.elim hq
        | cont => exact False.elim hq
  obtain ⟨s1, s2⟩ := kw_some (po := pos) (env := X.env) hs
  cases ps with
  | nil =>
    cases he rfl
    refine ⟨fun pins s σ H Q I h => ?_⟩
    refine wpAny_Call_Name_kw (ld_glob I hg hm ?_ hdb)
    refine PySem.W.callWith_KW0 (h₀ := X.base) I.ok.mod.kin hkp s1 ?_ (by show (false || _) = false; rw [s2]; rfl)
    obtain ⟨ρ, env, M, rp, re, f⟩ := h
    dsimp only [evE, evEs] at f
    exact go (us := []) (vs := []) (ds := []) I .nil rp re .nil f
  | cons q qs' =>
    have hp' := hp
    rw [List.all_cons, Bool.and_eq_true] at hp'
    have st := starEach_plain (es := qs') (env := X.env) hp'.1
    refine ⟨fun pins s σ H Q I h => ?_⟩
    refine wpAny_Call_Name_kw (ld_glob I hg hm ?_ hdb)
    refine PySem.W.callWith_KW (h₀ := X.base) I.ok.mod.kin hkp s1 ?_ (by rw [s2, backTo_plain hp]; rfl) st
    obtain ⟨ρ, env, M, rp, re, f⟩ := h
    dsimp only [evE] at f
    refine thn (ha.run pos pins s σ H (fun vs H1 => ∃ (ρ1 : Pl) (M1 : Sto) (d1 : List D), Rep X.K ρ1 M1 H1 ∧ RE X.K ρ1 M1 H1 env σ ∧ RDs X.K H1 (Al ρ1 M1) ρ1 d1 vs ∧ Fi X.K ca (rDD X.K) W σ ρ1 M1 H1 ((evEs C kes env M1).bind fun ys M2 => C g (d1 ++ ys) M2) Q) I ⟨ρ, env, M, rp, re, (f.bind (R1 := rDs X.K)).imp ?_⟩) fun us s1 ⟨vs, H1, I1, rv, ρ1, M1, d1, rp1, re1, q1, f1⟩ => go I1 rv rp1 re1 q1 f1
    rintro xs H1 ⟨ρ1, M1, d1, rp1, x1, q1, f1⟩
    exact ⟨ρ1, M1, d1, rp1, re.ext x1, q1, f1⟩
/-! ### built-in functions, kinds -/
theorem bi_boot : ∀ b : Bi, bootBuiltins (biName b) = some (biVal b) := by intro b; cases b <;> rfl
theorem bi_name : ∀ b : Bi, biName b ≠ "__name__" ∧ (biName b == ("__debug__" : Str)) = false := by intro b; cases b <;> decide
theorem z_bi {b : Bi} {m : Bool} (hc : X.calm = true) (hg : Gl X (biName b)) (hm : X.mg (biName b) = none) (nb : b.two = false) (hp : ps.all plainX = true) (ha : PA X ps (zEs X ca W C es)) (hn : ps ≠ []) : PE X (.Call (.Name (biName b) p) ps [] pos) (zE X ca W C (.bi b m es)) := by
  have fin : ∀ σ H Q, zE X ca W C (.bi b m es) σ H Q → tCB (rBiZ X.K b) (zEs X ca W C es) σ H Q := by
    intro σ H Q ⟨ρ, env, M, rp, re, f⟩
    dsimp only [evE] at f
    refine ⟨ρ, env, M, rp, re, (f.bind (R1 := rDs X.K)).imp ?_⟩
    rintro xs H1 ⟨ρ1, M1, d1, rp1, x1, q1, f1⟩
    exact biD_rd rp1 q1 nb f1
  cases ps with
  | nil => exact absurd rfl hn
  | cons q qs' =>
    have hp' := hp
    rw [List.all_cons, Bool.and_eq_true] at hp'
    have h := cr_biZ (X := X) hc b
    have hb := bi_boot b
    have h1 := (bi_name b).1
    have h2 := (bi_name b).2
    have s1 := starEach_plain (es := qs') (env := X.env) hp'.1
    have s2 := backTo_plain (env := X.env) (pos := pos) hp'.2
    cases b <;> first
      | exact pe_imp (pe_callB h hg hm hb ha h1 h2 s1 s2) fin
      | exact pe_imp (pe_callTy h hg hm hb ha h1 h2 s1 s2) fin
def tyS : Ty → String
  | .int => "int" | .bool => "bool" | .str => "str" | .tup => "tuple" | .lst => "list" | .non => "NoneType" | .dct => "dict"
def tyN : Ty → Str
  | .int => "int" | .bool => "bool" | .str => "str" | .tup => "tuple" | .lst => "list" | .non => "NoneType" | .dct => "dict"
theorem ty_boot : ∀ t : Ty, t ≠ .non → bootBuiltins (tyN t) = some (.type (tyS t)) := by intro t h; cases t <;> first | rfl | exact absurd rfl h
theorem ty_name : ∀ t : Ty, tyN t ≠ "__name__" ∧ (tyN t == ("__debug__" : Str)) = false := by intro b; cases b <;> decide
theorem kit_tyZ (K : PySem.W.Frag) : ∀ u t : Ty, t ≠ .non → PySem.W.kitOne K (.type (tyS u)) (.type (tyS t)) = some (subTy u t) := by
  intro u t h
  apply kit_ty
  cases u <;> cases t <;> first | exact absurd rfl h | decide +kernel
theorem kit_anyZ (K : PySem.W.Frag) (u : Ty) : ∀ ts : List Ty, (∀ t ∈ ts, t ≠ .non) → PySem.W.kitAny K (.type (tyS u)) (ts.map fun t => .type (tyS t)) = some (ts.any (subTy u))
  | [], _ => rfl
  | t :: r, h => by
    rw [List.map_cons, PySem.W.kitAny, kit_tyZ K u t (h t List.mem_cons_self), List.any_cons]
    cases subTy u t with
    | true => rfl
    | false => exact kit_anyZ K u r fun t ht => h t (List.mem_cons_of_mem _ ht)
theorem tyx_rd {K : PySem.W.Frag} {ρ : Pl} {M : Sto} {H : Hp} {d : D} {v : V} {u : Ty} (rp : Rep K ρ M H) (q : RD K H (Al ρ M) ρ d v) (e : tyOf M d = some u) : TyX K H v (.type (tyS u)) := by
  unfold tyOf at e
  split at e
  · cases e; rw [q.int_inv]; exact .base (.int _)
  · cases e; rw [q.bl_inv]; exact .base (.bl _)
  · cases e; rw [q.str_inv]; exact .base (.str _)
  · cases e
    cases q with
    | tup h n z r =>
      obtain ⟨o, h, _⟩ := h
      exact .fTuple h
    | tupK h1 h2 h3 h4 h5 z r => exact .kTuple h1 h2.1
  · cases e
    obtain ⟨a, vs, rfl, h1, _⟩ := q.lst_inv
    exact .base (.lst h1)
  · cases e; rw [q.non_inv]; exact .base .non
  · obtain ⟨a, rfl, ha⟩ := q.loc_inv
    split at e
    · rename_i hm; cases e
      obtain ⟨vs, h1, _⟩ := rp.lst_at hm ha
      exact .base (.lst h1)
    · rename_i hm; cases e
      obtain ⟨vs, h1, _⟩ := rp.dct_at hm ha
      exact .base (.dK h1)
    · cases e
  · cases e
  · cases e
theorem z_isi1 {t : Ty} {p1 p2 : Pos} (hg : Gl X "isinstance") (hm : X.mg "isinstance" = none) (hg2 : Gl X (tyN t)) (hm2 : X.mg (tyN t) = none) (ht : t ≠ .non) (ha : PE X pa (zE X ca W C a)) (hp : plainX pa = true) :
    PE X (.Call (.Name "isinstance" p1) [pa, .Name (tyN t) p2] [] pos) (zE X ca W C (.isi a true [t])) := by
  have h2 : PE X (.Name (tyN t) p2) (tC (.ty (tyS t))) := pe_bltn hg2 hm2 (ty_boot t ht) rfl (ty_name t).1 (ty_name t).2
  refine pe_imp (pe_callB call_isi hg hm rfl (pa_cons ha (pa_cons h2 pa_nil) (starEach_plain hp)) (by decide) (by decide) (starEach_plain hp) rfl) fun σ H Q h => rd1 (R := fun Q x H => rIsi X.K [x, .ty (tyS t)] H Q) h fun ρ M H x dx rp qx f => ?_
  obtain ⟨u, e, f⟩ := f.ofO
  refine ⟨x, .ty (tyS t), .type (tyS u), .type (tyS t), subTy u t, rfl, .ty _, tyx_rd rp qx e, kit_tyZ _ u t ht, ?_⟩
  have f := f.ok rp (.bl _)
  simpa using f
end
end Z


/-! Z9: methods, what is walked, comprehensions. -/
namespace Z
open PySem L2 PySem.Spec PyProof.Rows

theorem star_all {env : Env} {pos : Pos} : ∀ {es : List Expr}, es.all plainX = true → (backTo pos (starEach es env)).all (fun x => !x.1) = true
  | [], _ => rfl
  | e :: es, h => by
    rw [List.all_cons, Bool.and_eq_true] at h
    rw [starEach_plain h.1]
    show (!false && (backTo pos (starEach es env)).all (fun x => !x.1)) = true
    rw [star_all h.2]; rfl
theorem few_plain {env : Env} {pos : Pos} {es : List Expr} (h : es.all plainX = true) (hl : es.length < 30) : ((backTo pos (starEach es env)).all (fun x => !x.1) && (backToKw pos (keywordEach [] env)).all (fun x => x.1.isSome)
      && decide (es.length + ([] : List Keyword).length + (if ([] : List Keyword).isEmpty then 0 else 1) < 30)) = true := by
  rw [star_all h]
  show (true && true && decide (es.length + 0 + 0 < 30)) = true
  rw [decide_eq_true (by omega)]; rfl
section
variable {X : Cx} {ca : String → Addr} {W : WX} {C : Calls} {a b c : E} {pa pb pc : Expr} {pos apos : Pos} {es : Es} {ps : List Expr} {x : Str} {p : Pos}
/-! ### methods -/
theorem Fi.ites {α β : Type} {K : PySem.W.Frag} {R : Rl α β} {σ : L2.St} {ρ : Pl} {M : Sto} {H : Hp} {Q : β → Hp → Prop} {k : Bool} {r : Res α} (f : Fi K ca R W σ ρ M H (if k = true then r else .fail) Q) : k = true ∧ Fi K ca R W σ ρ M H r Q := f.ite
theorem kind_lst {K : PySem.W.Frag} {ρ : Pl} {M : Sto} {H : Hp} {d : D} {v : V} {f : Mt} (rp : Rep K ρ M H) (q : RD K H (Al ρ M) ρ d v) (hf : f ≠ .get) (h : kindM f M d = true) : tyV K "list" v H := by
  unfold kindM at h
  split at h
  · obtain ⟨a, rfl, ha⟩ := q.loc_inv
    split at h
    · rename_i hm; obtain ⟨vs, h1, _⟩ := rp.lst_at hm ha; exact .inl ⟨rfl, vs, .of h1⟩
    · rename_i hm; obtain ⟨vs, h1, _⟩ := rp.lst_at hm ha; exact .inl ⟨rfl, vs, .of h1⟩
    · rename_i hm; obtain ⟨vs, h1, _⟩ := rp.lst_at hm ha; exact .inl ⟨rfl, vs, .of h1⟩
    · rename_i hm; obtain ⟨vs, h1, _⟩ := rp.lst_at hm ha; exact .inl ⟨rfl, vs, .of h1⟩
    · exact absurd rfl hf
    · cases h
  · cases h
theorem mth_go {f : Mt} {σ : L2.St} {H : Hp} {Q : VK} {R : V → List V → Hp → VK → Prop} {P : V → Hp → Prop}
    (hP : ∀ ρ M H d v, Rep X.K ρ M H → RD X.K H (Al ρ M) ρ d v → kindM f M d = true → P v H)
    (hR : ∀ ρ M H d v ds vs, Rep X.K ρ M H → RD X.K H (Al ρ M) ρ d v → RDs X.K H (Al ρ M) ρ ds vs → Fi X.K ca (rDD X.K) W σ ρ M H (mthD f d ds M) Q → R v vs H Q)
    (h : zE X ca W C (.mth f a es) σ H Q) : zE X ca W C a σ H fun x H1 => P x H1 ∧ zEs X ca W C es σ H1 fun xs H2 => R x xs H2 Q := by
  obtain ⟨ρ, env, M, rp, re, f⟩ := h
  dsimp only [evE] at f
  refine ⟨ρ, env, M, rp, re, (f.bind (R1 := rDD X.K)).imp ?_⟩
  rintro x H1 ⟨ρ1, M1, d1, rp1, x1, q1, f1⟩
  obtain ⟨hk, f1⟩ := f1.ites
  refine ⟨hP _ _ _ _ _ rp1 q1 hk, ρ1, env, M1, rp1, re.ext x1, (f1.bind (R1 := rDs X.K)).imp ?_⟩
  rintro xs H2 ⟨ρ2, M2, d2, rp2, x2, q2, f2⟩
  exact hR _ _ _ _ _ _ _ rp2 (RD.ext x2 q1) q2 f2
theorem z_append (ha : PE X pa (zE X ca W C a)) (hb : baseX pa = true) (hp : plainX pb = true) (hv : PE X pb (zE X ca W C b)) (hl : (apos.endLine == pos.line) = true) :
    PE X (.Call (.Attribute pa "append" apos) [pb] [] pos) (zE X ca W C (.mth .append a (.cons b .nil))) := by
  have hps : [pb].all plainX = true := by rw [List.all_cons, hp]; rfl
  refine pe_imp (pe_bm PySem.F.plainAttrs_list PySem.F.slot_list_append PySem.F.type_list_append mt_append ha (za_cons hp hv za_nil) (base_plain hb) (few_plain hps (by simp)) hl (starEach_plain hp) rfl) fun σ H Q h => ?_
  refine mth_go (f := .append) (P := fun x H => tyV X.K "list" x H) (R := rAppend) (fun ρ M H d v rp q hk => kind_lst rp q (by decide) hk) (fun ρ M H d v ds vs rp q qs f => ?_) h
  unfold mthD at f
  split at f <;> try (exact f.elim)
  · rename_i n y _
    obtain ⟨a, rfl, ha⟩ := q.loc_inv
    obtain ⟨u, rfl, qu⟩ := qs.one
    split at f
    · rename_i xs hm
      obtain ⟨hz, f⟩ := f.ites
      obtain ⟨ws, h1, h2, h3⟩ := rp.lst_at hm ha
      have hlen := h3.length
      refine ⟨a, ws, u, rfl, rfl, h1, by rw [← hlen]; exact sz_lt hz, ?_⟩
      obtain ⟨r2, x2⟩ := rp.putL (ys := xs ++ [y]) (vs := ws ++ [u]) hm ha (by rw [List.length_append, ← hlen]; exact sz_lt hz) (h3.append (.cons qu .nil))
      exact f _ _ _ r2 x2 .non
    · exact f.elim
  · rename_i hh; exact absurd hh (by decide)
  · rename_i hh; exact absurd hh (by decide)
  · rename_i hh; exact absurd hh (by decide)
  · rename_i hh; exact absurd hh (by decide)
theorem z_pop (ha : PE X pa (zE X ca W C a)) (hb : baseX pa = true) (hl : (apos.endLine == pos.line) = true) : PE X (.Call (.Attribute pa "pop" apos) [] [] pos) (zE X ca W C (.mth .pop a .nil)) := by
  refine pe_imp (pe_bm0 PySem.F.plainAttrs_list PySem.F.slot_list_pop PySem.F.type_list_pop mt_pop ha (base_plain hb) hl) fun σ H Q h => ?_
  have h2 := mth_go (f := .pop) (P := fun x H => tyV X.K "list" x H) (R := rPop) (fun ρ M H d v rp q hk => kind_lst rp q (by decide) hk) (fun ρ M H d v ds vs rp q qs f => ?_) h
  · obtain ⟨ρ, env, M, rp, re, f⟩ := h2
    refine ⟨ρ, env, M, rp, re, f.imp fun x H1 ⟨t, ρ1, env1, M1, rp1, re1, f1⟩ => ⟨t, ?_⟩⟩
    dsimp only [evEs] at f1
    exact Fi.ok (R := rDs X.K) rp1 .nil f1
  · unfold mthD at f
    split at f <;> try (exact f.elim)
    · rename_i hh; exact absurd hh (by decide)
    · rename_i n
      obtain ⟨a, rfl, ha⟩ := q.loc_inv
      cases qs
      split at f
      · rename_i xs hm
        obtain ⟨y, e, f⟩ := f.ofO
        obtain ⟨ws, h1, h2, h3⟩ := rp.lst_at hm ha
        have hlen := h3.length
        rw [List.getLast?_eq_getElem?] at e
        obtain ⟨u, e1, qu⟩ := h3.get e
        refine ⟨a, ws, u, rfl, rfl, h1, by rw [← hlen]; exact e1, ?_⟩
        obtain ⟨r2, x2⟩ := rp.putL (ys := xs.dropLast) (vs := ws.dropLast) hm ha (by rw [List.length_dropLast]; omega) h3.dropLast
        exact f _ _ _ r2 x2 (RD.ext x2 qu)
      · exact f.elim
    · rename_i hh; exact absurd hh (by decide)
    · rename_i hh; exact absurd hh (by decide)
    · rename_i hh; exact absurd hh (by decide)
theorem z_extend (ha : PE X pa (zE X ca W C a)) (hb : baseX pa = true) (hp : plainX pb = true) (hv : PE X pb (zE X ca W C b)) (hl : (apos.endLine == pos.line) = true) :
    PE X (.Call (.Attribute pa "extend" apos) [pb] [] pos) (zE X ca W C (.mth .extend a (.cons b .nil))) := by
  have hps : [pb].all plainX = true := by rw [List.all_cons, hp]; rfl
  refine pe_imp (pe_bm PySem.F.plainAttrs_list PySem.F.slot_list_extend PySem.F.type_list_extend mt_extend ha (za_cons hp hv za_nil) (base_plain hb) (few_plain hps (by simp)) hl (starEach_plain hp) rfl) fun σ H Q h => ?_
  refine mth_go (f := .extend) (P := fun x H => tyV X.K "list" x H) (R := rExtend) (fun ρ M H d v rp q hk => kind_lst rp q (by decide) hk) (fun ρ M H d v ds vs rp q qs f => ?_) h
  unfold mthD at f
  split at f <;> try (exact f.elim)
  · rename_i hh; exact absurd hh (by decide)
  · rename_i hh; exact absurd hh (by decide)
  · rename_i n ys _
    obtain ⟨a, rfl, ha⟩ := q.loc_inv
    obtain ⟨u, rfl, qu⟩ := qs.one
    obtain ⟨a2, us, rfl, g1, gn, g2, g3⟩ := qu.lst_inv
    split at f
    · rename_i xs hm
      obtain ⟨hz, f⟩ := f.ites
      obtain ⟨ws, h1, h2, h3⟩ := rp.lst_at hm ha
      have hlen := h3.length
      have hlen2 := g3.length
      refine ⟨a, a2, ws, us, rfl, rfl, h1, g1, by rw [← hlen, ← hlen2]; exact sz_of hz, ?_⟩
      obtain ⟨r2, x2⟩ := rp.putL (ys := xs ++ ys) (vs := ws ++ us) hm ha (by rw [List.length_append, ← hlen, ← hlen2]; exact sz_of hz) (h3.append g3)
      exact f _ _ _ r2 x2 .non
    · exact f.elim
  · rename_i hh; exact absurd hh (by decide)
  · rename_i hh; exact absurd hh (by decide)
theorem z_popAt (ha : PE X pa (zE X ca W C a)) (hb : baseX pa = true) (hp : plainX pb = true) (hv : PE X pb (zE X ca W C b)) (hl : (apos.endLine == pos.line) = true) :
    PE X (.Call (.Attribute pa "pop" apos) [pb] [] pos) (zE X ca W C (.mth .popAt a (.cons b .nil))) := by
  have hps : [pb].all plainX = true := by rw [List.all_cons, hp]; rfl
  refine pe_imp (pe_bm PySem.F.plainAttrs_list PySem.F.slot_list_pop PySem.F.type_list_pop mt_popAt ha (za_cons hp hv za_nil) (base_plain hb) (few_plain hps (by simp)) hl (starEach_plain hp) rfl) fun σ H Q h => ?_
  refine mth_go (f := .popAt) (P := fun x H => tyV X.K "list" x H) (R := rPopAt) (fun ρ M H d v rp q hk => kind_lst rp q (by decide) hk) (fun ρ M H d v ds vs rp q qs f => ?_) h
  unfold mthD at f
  split at f <;> try (exact f.elim)
  · rename_i hh; exact absurd hh (by decide)
  · rename_i hh; exact absurd hh (by decide)
  · rename_i hh; exact absurd hh (by decide)
  · rename_i n i _
    obtain ⟨a, rfl, ha⟩ := q.loc_inv
    obtain ⟨u, rfl, qu⟩ := qs.one
    split at f
    · rename_i xs hm
      obtain ⟨hz, f⟩ := f.ites
      obtain ⟨z0, z1, z2⟩ := of_decide_eq_true hz
      obtain ⟨y, e, f⟩ := f.ofO
      obtain ⟨ws, h1, h2, h3⟩ := rp.lst_at hm ha
      have hlen := h3.length
      obtain ⟨w, e1, qw⟩ := h3.get e
      refine ⟨a, ws, i, i.toNat, w, rfl, by rw [qu.int_inv], h1, by omega, by omega, ?_, e1, ?_⟩
      · unfold PySem.seqIndex?
        have n0 : ¬ i < 0 := by omega
        simp only [n0, if_false]
        rw [if_pos]
        rw [Bool.and_eq_true]
        exact ⟨decide_eq_true z0, decide_eq_true (by omega)⟩
      · have hh : (xs.eraseIdx i.toNat).length ≤ xs.length := List.length_eraseIdx_le ..
        have hh2 : (ws.eraseIdx i.toNat).length ≤ ws.length := List.length_eraseIdx_le ..
        obtain ⟨r2, x2⟩ := rp.putL (ys := xs.eraseIdx i.toNat) (vs := ws.eraseIdx i.toNat) hm ha (by omega) (h3.eraseIdx _)
        exact f _ _ _ r2 x2 (RD.ext x2 qw)
    · exact f.elim
  · rename_i hh; exact absurd hh (by decide)
theorem z_get {e1 e2 : E} {p1 p2 : Expr} (hu : X.A.units + 1 < cLine) (ha : PE X pa (zE X ca W C a)) (hb : baseX pa = true) (hp1 : plainX p1 = true) (hp2 : plainX p2 = true) (h1 : PE X p1 (zE X ca W C e1)) (h2 : PE X p2 (zE X ca W C e2)) (hl : (apos.endLine == pos.line) = true) :
    PE X (.Call (.Attribute pa "get" apos) [p1, p2] [] pos) (zE X ca W C (.mth .get a (.cons e1 (.cons e2 .nil)))) := by
  have hps : [p1, p2].all plainX = true := by rw [List.all_cons, List.all_cons, hp1, hp2]; rfl
  have m : M2 X pa "get" apos p1 p2 pos := ⟨base_plain hb, few_plain hps (by simp), hl, by rw [starEach_plain hp1, starEach_plain hp2]; rfl⟩
  refine pe_imp (pe_dget2 hu ha h1 h2 m) fun σ H Q h => ?_
  have h2 := mth_go (f := .get) (P := fun x H => ∃ a, x = .ref a ∧ IsD H a) (R := fun x xs H Q => ∃ a y z o, x = .ref a ∧ xs = [y, z] ∧ DGet H a y o ∧ Q (o.getD z) H) (fun ρ M H d v rp q hk => ?_) (fun ρ M H d v ds vs rp q qs f => ?_) h
  · obtain ⟨ρ, env, M, rp, re, f⟩ := h2
    refine ⟨ρ, env, M, rp, re, f.imp fun x H1 ⟨⟨a, ex, t⟩, ρ1, env1, M1, rp1, re1, f1⟩ => ⟨a, ex, t, ?_⟩⟩
    dsimp only [evEs] at f1
    refine ⟨ρ1, env1, M1, rp1, re1, (f1.bind (R1 := rDD X.K)).imp ?_⟩
    rintro y H2 ⟨ρ2, M2, d2, rp2, x2, q2, f2⟩
    rw [bind_assoc] at f2
    refine ⟨ρ2, env1, M2, rp2, re1.ext x2, (f2.bind (R1 := rDD X.K)).imp ?_⟩
    rintro z H3 ⟨ρ3, M3, d3, rp3, x3, q3, f3⟩
    rw [bind_ok, bind_ok] at f3
    obtain ⟨a', y', z', o, e1, e2, g, qq⟩ := Fi.ok (R := rDs X.K) rp3 (.cons (RD.ext x3 q2) (.cons q3 .nil)) f3
    rw [ex] at e1; cases e1; cases e2
    exact ⟨o, g, qq⟩
  · unfold kindM at hk
    split at hk
    · obtain ⟨a, rfl, ha⟩ := q.loc_inv
      split at hk
      · rename_i hh; cases hh
      · rename_i hh; cases hh
      · rename_i hh; cases hh
      · rename_i hh; cases hh
      · rename_i hm _; obtain ⟨vs, g1, _⟩ := rp.dct_at hm ha; exact ⟨a, rfl, .inl ⟨vs, .inl g1⟩⟩
      · cases hk
    · cases hk
  · unfold mthD at f
    split at f <;> try (exact f.elim)
    · rename_i hh; exact absurd hh (by decide)
    · rename_i hh; exact absurd hh (by decide)
    · rename_i hh; exact absurd hh (by decide)
    · rename_i hh; exact absurd hh (by decide)
    · rename_i n k dd _
      obtain ⟨a, rfl, ha⟩ := q.loc_inv
      obtain ⟨u, w, rfl, qu, qw⟩ := qs.two
      have fin : ∀ (kvs : List (Key × D)) (kk : Key), M[n]? = some (.dct kvs) → u = kV kk → Fi X.K ca (rDD X.K) W σ ρ M H (.ok ((getK kvs kk).getD dd) M) Q → ∃ a' y z o, V.ref a = .ref a' ∧ [u, w] = [y, z] ∧ DGet H a' y o ∧ Q (o.getD z) H := by
        intro kvs kk hm hu f
        obtain ⟨ws, g1, g2, g3⟩ := rp.dct_at hm ha
        refine ⟨a, u, w, valV ws kk, rfl, rfl, .inl ⟨ws, kk, .inl g1, hu, rfl⟩, ?_⟩
        rcases keys_get kk g3 with ⟨e1, e2⟩ | ⟨d', v, e1, e2, e3⟩
        · rw [e1] at f; rw [e2]
          exact f.ok rp qw
        · rw [e1] at f; rw [e2]
          exact f.ok rp e3
      split at f
      · rename_i kvs s hm; exact fin kvs (Sum.inr s) hm qu.str_inv f
      · rename_i kvs s hm; exact fin kvs (Sum.inl s) hm qu.int_inv f
      · exact f.elim
end
end Z


/-! Z10: targets, what is walked, comprehensions. -/
namespace Z
open PySem L2 PySem.Spec PyProof.Rows

/-! ### targets -/
def Tg.slots : Tg → List Nat
  | .n i => [i]
  | .t is => is
theorem wipe_get {σ : L2.St} {j : Nat} : ∀ {vs : List Nat}, (L2.wipe σ vs)[j]? = if j ∈ vs then (σ[j]?).map (fun _ => none) else σ[j]?
  | [] => by rw [if_neg (by simp)]; rfl
  | v :: vs => by
    show ((L2.wipe σ vs).set v none)[j]? = _
    rw [List.getElem?_set, wipe_get (vs := vs), wipe_length]
    by_cases e : v = j
    · subst e
      rw [if_pos rfl, if_pos List.mem_cons_self]
      split
      · rename_i h; rw [List.getElem?_eq_getElem h]; rfl
      · rename_i h; rw [List.getElem?_eq_none (by omega)]; rfl
    · rw [if_neg e]
      by_cases h : j ∈ vs
      · rw [if_pos h, if_pos (List.mem_cons_of_mem _ h)]
      · rw [if_neg h, if_neg (by simp [h, Ne.symm e])]
theorem wipe_set {σ : L2.St} {i : Nat} {x : Option V} {vs : List Nat} (h : i ∈ vs) : L2.wipe (σ.set i x) vs = L2.wipe σ vs := by
  apply List.ext_getElem?
  intro j
  rw [wipe_get, wipe_get, List.getElem?_set]
  by_cases hj : j ∈ vs
  · rw [if_pos hj, if_pos hj]
    split
    · rename_i e; subst e
      split
      · rename_i l; rw [List.getElem?_eq_getElem l]; rfl
      · rename_i l; rw [List.getElem?_eq_none (by omega)]
    · rfl
  · rw [if_neg hj, if_neg hj, if_neg (fun e => hj (by rw [← e]; exact h))]
theorem wipe_wipe {σ : L2.St} {vs : List Nat} : L2.wipe (L2.wipe σ vs) vs = L2.wipe σ vs := by
  apply List.ext_getElem?
  intro j
  rw [wipe_get]
  by_cases hj : j ∈ vs
  · rw [if_pos hj, wipe_get, if_pos hj]
    cases σ[j]? <;> rfl
  · rw [if_neg hj]
def zG (K : PySem.W.Frag) (t : Tg) : TG := fun v σ H Q => ∃ ρ env M d env1, Rep K ρ M H ∧ RE K ρ M H env σ ∧ RD K H (Al ρ M) ρ d v ∧ asgD t d env = some env1 ∧
  ∀ σ1, RE K ρ M H env1 σ1 → (∀ own : List Nat, (∀ i ∈ t.slots, i ∈ own) → L2.wipe σ1 own = L2.wipe σ own) → Q σ1 H
def gNames : List Nat → TGs
  | [] => gNil
  | i :: r => gCons (gName i) (gNames r)
theorem gNames_rd {K : PySem.W.Frag} {ρ : Pl} {M : Sto} {H : Hp} {Q : L2.St → Hp → Prop} : ∀ {is : List Nat} {ds : List D} {vs : List V} {env env1 : En} {σ : L2.St}, RDs K H (Al ρ M) ρ ds vs → asgN is ds env = some env1 → RE K ρ M H env σ →
    (∀ σ1, RE K ρ M H env1 σ1 → (∀ own : List Nat, (∀ i ∈ is, i ∈ own) → L2.wipe σ1 own = L2.wipe σ own) → Q σ1 H) → gNames is vs σ H Q
  | [], _, _, _, _, _, .nil, e, re, q => by
    rw [asgN] at e; cases e
    exact ⟨rfl, q _ re fun _ _ => rfl⟩
  | [], _, _, _, _, _, .cons _ _, e, _, _ => by rw [asgN] at e; cases e; all_goals simp
  | _ :: _, _, _, _, _, _, .nil, e, _, _ => by rw [asgN] at e; cases e; all_goals simp
  | i :: is, _, _, _, _, _, .cons (v := v) (vs := vr) h r, e, re, q => by
    rw [asgN] at e
    refine ⟨v, vr, rfl, ?_⟩
    show gNames is vr (_ : L2.St) H Q
    refine gNames_rd r e (re.set i h) fun σ1 re1 hw => q σ1 re1 fun own ho => ?_
    rw [hw own fun j hj => ho j (List.mem_cons_of_mem _ hj), wipe_set (ho i List.mem_cons_self)]
theorem gNames_len {Q : L2.St → Hp → Prop} : ∀ {is : List Nat} {vs : List V} {σ : L2.St} {H : Hp}, gNames is vs σ H Q → vs.length = is.length
  | [], _, _, _, h => by rw [h.1]; rfl
  | i :: is, _, _, _, ⟨v, vr, e, h⟩ => by
    rw [e, List.length_cons, List.length_cons, gNames_len (is := is) (Q := Q) h]
/-- the def's names, its scope, which are cells of its own -/
structure CC where
  N : List Str
  sc : Scope
  fn : Str → Bool
structure CcOk (X : Cx) (c : CC) : Prop where
  N : X.N = c.N
  sc : X.env.scope = c.sc
  fn : X.fn = c.fn
  nd : X.N.Nodup
def locC (c : CC) (x : Str) : Bool := match c.sc.names.lookup x with
  | some .local => true
  | some .cell => c.fn x
  | _ => false
def nameC (c : CC) (i : Nat) (x : Str) : Bool := decide (c.N[i]? = some x) && locC c x
def namesC (c : CC) : List Nat → List Expr → Bool
  | [], [] => true
  | i :: is, .Name x _ :: es => nameC c i x && namesC c is es
  | _, _ => false
def tgC (c : CC) : Tg → Expr → Bool
  | .n i, .Name x _ => nameC c i x
  | .t is, .Tuple es _ _ => namesC c is es
  | _, _ => false
section
variable {X : Cx} {ca : String → Addr} {W : WX} {C : Calls} {c : CC}
theorem locC_ok (cc : CcOk X c) {x : Str} (h : locC c x = true) : Loc X.env.scope x ∧ (X.fn x = true ∨ X.env.scope.names.lookup x = some .local) := by
  unfold locC at h
  rw [cc.fn, cc.sc]
  split at h
  · rename_i e; exact ⟨.inl e, .inr e⟩
  · rename_i e; exact ⟨.inr e, .inl h⟩
  · cases h
theorem pg_nameZ (cc : CcOk X c) {i : Nat} {x : Str} {pos : Pos} (h : nameC c i x = true) : PG X (.Name x pos) (gName i) := by
  unfold nameC at h
  rw [Bool.and_eq_true] at h
  obtain ⟨h1, h2⟩ := locC_ok cc h.2
  exact pg_name cc.nd (by rw [cc.N]; exact of_decide_eq_true h.1) h1 h2
theorem pgs_namesZ (cc : CcOk X c) : ∀ {is : List Nat} {es : List Expr}, namesC c is es = true → PGs X es (gNames is) ∧ (assignEach es X.env).length = is.length ∧ (assignEach es X.env).findIdx? (·.1) = none
  | [], [], _ => ⟨pgs_nil, rfl, rfl⟩
  | [], e :: _, h => by unfold namesC at h; cases h
  | _ :: _, [], h => by unfold namesC at h; cases h
  | i :: is, e :: es, h => by
    cases e <;> try (unfold namesC at h; cases h; done)
    rename_i x pos
    unfold namesC at h
    rw [Bool.and_eq_true] at h
    obtain ⟨h1, h2, h3⟩ := pgs_namesZ cc h.2
    refine ⟨pgs_cons (pg_nameZ cc h.1) h1 rfl, ?_, ?_⟩
    · show (_ :: assignEach es X.env).length = _
      rw [List.length_cons, h2]; rfl
    · show ((false, _) :: assignEach es X.env).findIdx? _ = none
      rw [List.findIdx?_cons, h3]; rfl
theorem pg_z (cc : CcOk X c) (hc : X.calm = true) {t : Tg} {tg : Expr} (h : tgC c t tg = true) : PG X tg (zG X.K t) := by
  cases t with
  | n i =>
    cases tg <;> try (unfold tgC at h; cases h; done)
    rename_i x pos
    have g := pg_nameZ (pos := pos) cc h
    refine ⟨fun pins s σ H v u Q I r ⟨ρ, env, M, d, env1, rp, re, q, e, k⟩ => g.run pins s σ H v u Q I r ?_⟩
    cases e
    exact k _ (re.set i q) fun own ho => wipe_set (ho i List.mem_cons_self)
  | t is =>
    cases tg <;> try (unfold tgC at h; cases h; done)
    rename_i es kk pos
    obtain ⟨h1, h2, h3⟩ := pgs_namesZ cc (show namesC c is es = true from h)
    have g := pg_tup (pos := pos) (k := kk) hc h1 h2 h3
    refine ⟨fun pins s σ H v u Q I r ⟨ρ, env, M, d, env1, rp, re, q, e, k⟩ => g.run pins s σ H v u Q I r ?_⟩
    cases d <;> try (cases e; done)
    · obtain ⟨a, vs, rfl, g1, g2, g3⟩ := q.tup_inv
      have hn := gNames_rd g3 e re k
      exact ⟨a, vs, rfl, g1, gNames_len hn, hn⟩
    · obtain ⟨a, vs, rfl, g1, g2, g3⟩ := q.pr_inv
      have hn := gNames_rd g3 e re k
      exact ⟨a, vs, rfl, g1, gNames_len hn, hn⟩
end
/-! ### what is walked -/
/-- items by an iterator -/
def rIt (K : PySem.W.Frag) : Rl (List D) L2.It := fun H al ρ ds J => ds.length ≤ sizeLine ∧ ∃ (G : Hp → Prop) (Y : Nat → Hp → V → Hp → Prop), Walk J ds.length G Y ∧ ∀ M ρ' M' H', al = Al ρ M → Wk ρ M H ρ' M' H' → Rep K ρ' M' H' →
  G H' ∧ ∀ (i : Nat) (d : D) (x : V) (H'' : Hp), ds[i]? = some d → Y i H' x H'' → Rep K ρ' M' H'' ∧ Ext ρ' M' H' ρ' M' H'' ∧ RD K H'' (Al ρ' M') ρ' d x
abbrev zI (X : Cx) (ca : String → Addr) (W : WX) (C : Calls) (it : Z.It) : TI := fun σ H R => rd X.K ca (rIt X.K) W (fun env M => evIt C it env M) σ H R
theorem walk_zipT {K : PySem.W.Frag} {a b : Addr} {xs ys : List V} {n : Nat} (hn : n = min xs.length ys.length) : Walk (RZ.ItzT K a b) n (fun H => SqT K H a xs ∧ SqT K H b ys) (YPair (fun i => xs[i]?) (fun i => ys[i]?)) := by
  subst hn
  constructor
  · intro i _ hi q
    have h1 : i < xs.length := by omega
    have h2 : i < ys.length := by omega
    exact ⟨xs, ys, xs[i], ys[i], q.1, q.2, by simp [h1], by simp [h2]⟩
  · intro _ q
    exact ⟨xs, ys, q.1, q.2, by omega⟩
  · intro i H v H' _ q y
    obtain ⟨T, x, z, h1, h2, h3, h4, h5⟩ := y
    exact ⟨T, x, z, h1, h2, h3, h4 xs q.1, h5 ys q.2⟩
section
variable {K : PySem.W.Frag} {ca : String → Addr} {W : WX} {σ : L2.St} {ρ : Pl} {M : Sto} {H : Hp} {Q : VK} {x y : V} {dx dy d : D} {vs ws : List V} {ds es : List D} {a b : Addr}
theorem rIt_list (h : H a = some (.lst vs)) (n : ¬ Al ρ M a) (hz : vs.length ≤ sizeLine) (r : RDs K H (Al ρ M) ρ ds vs) : rIt K H (Al ρ M) ρ ds (Itl K a) := by
  refine ⟨by rw [r.length]; exact hz, (fun H => SqL K H a vs), YAt vs, by rw [r.length]; exact walk_list, fun M0 ρ' M' H' e x rp => ?_⟩
  rw [e] at r n
  refine ⟨.of (x.keep _ _ h not_lst n).1, fun i d v H'' hd y => ?_⟩
  obtain ⟨rfl, hy⟩ := y
  obtain ⟨u, h1, h2⟩ := r.get hd
  rw [h1] at hy; cases hy
  exact ⟨rp, .refl, h2.wk x⟩
theorem rIt_scr (h : RD K H (Al ρ M) ρ (.scr ds) x) : ∃ a, x = .ref a ∧ (∃ xs, SqL K H a xs) ∧ rIt K H (Al ρ M) ρ ds (Itl K a) := by
  have go : ∀ (a : Addr) (vs : List V), vs.length ≤ sizeLine → RDs K H (Al ρ M) ρ ds vs → (∀ M0 ρ' M' H', Al ρ M = Al ρ M0 → Wk ρ M0 H ρ' M' H' → SqL K H' a vs) → rIt K H (Al ρ M) ρ ds (Itl K a) := by
    intro a vs hz r hs
    refine ⟨by rw [r.length]; exact hz, (fun H => SqL K H a vs), YAt vs, by rw [r.length]; exact walk_list, fun M0 ρ' M' H' e x rp => ?_⟩
    refine ⟨hs M0 ρ' M' H' e x, fun i d v H'' hd y => ?_⟩
    obtain ⟨rfl, hy⟩ := y
    rw [e] at r
    obtain ⟨u, h1, h2⟩ := r.get hd
    rw [h1] at hy; cases hy
    exact ⟨rp, .refl, h2.wk x⟩
  cases h with
  | scr h n z r => exact ⟨_, rfl, ⟨_, .inl h⟩, go _ _ z r fun M0 ρ' M' H' e x => by rw [e] at n; exact .inl (x.rd h n).1⟩
  | scrK h z r => exact ⟨_, rfl, ⟨_, .inr h⟩, go _ _ z r fun M0 ρ' M' H' e x => .inr h⟩
theorem rIt_tup (h : RD K H (Al ρ M) ρ (.tup ds) x) : ∃ a, x = .ref a ∧ (∃ xs, SqT K H a xs) ∧ rIt K H (Al ρ M) ρ ds (Itt K a) := by
  have go : ∀ (a : Addr) (vs : List V), vs.length ≤ sizeLine → RDs K H (Al ρ M) ρ ds vs → (∀ M0 ρ' M' H', Al ρ M = Al ρ M0 → Wk ρ M0 H ρ' M' H' → SqT K H' a vs) → rIt K H (Al ρ M) ρ ds (Itt K a) := by
    intro a vs hz r hs
    refine ⟨by rw [r.length]; exact hz, (fun H => SqT K H a vs), YAt vs, by rw [r.length]; exact walk_tup, fun M0 ρ' M' H' e x rp => ?_⟩
    refine ⟨hs M0 ρ' M' H' e x, fun i d v H'' hd y => ?_⟩
    obtain ⟨rfl, hy⟩ := y
    rw [e] at r
    obtain ⟨u, h1, h2⟩ := r.get hd
    rw [h1] at hy; cases hy
    exact ⟨rp, .refl, h2.wk x⟩
  cases h with
  | tup h n z r =>
    obtain ⟨o, h, _⟩ := h
    exact ⟨_, rfl, ⟨_, .inl (.inr ⟨o, h⟩)⟩, go _ _ z r fun M0 ρ' M' H' e x => by rw [e] at n; exact .inl (.inr ⟨o, (x.keep _ _ h not_frz n).1⟩)⟩
  | tupK h1 h2 h3 h4 h5 z r => exact ⟨_, rfl, ⟨_, .inr ⟨_, _, _, h1, h2.1, h3, h4, h5⟩⟩, go _ _ z r fun M0 ρ' M' H' e x => .inr ⟨_, _, _, h1, h2.1, h3, h4, h5⟩⟩
theorem rIt_str {z : Str} (hz : fitLen z.length = true) : rIt K H (Al ρ M) ρ (z.cps.toList.map fun c => .str ⟨#[c]⟩) (Its z) := by
  have hl : (z.cps.toList.map fun c => D.str ⟨#[c]⟩).length = z.cps.size := by rw [List.length_map, Array.length_toList]
  refine ⟨by rw [hl]; exact sz_of hz, _, _, by rw [hl]; exact walk_str, fun M0 ρ' M' H' e x rp => ⟨trivial, fun i d v H'' hd y => ?_⟩⟩
  obtain ⟨rfl, c, hc, rfl⟩ := y
  rw [List.getElem?_map, Array.getElem?_toList, hc] at hd
  cases hd
  exact ⟨rp, .refl, .str _⟩
theorem rng_get : ∀ {n i : Nat} {lo : Int} {d : D}, (rngD lo n)[i]? = some d → d = .int (lo + i)
  | 0, _, _, _, h => by rw [rngD] at h; simp at h
  | n + 1, 0, lo, d, h => by rw [rngD] at h; simp at h; rw [← h]; simp
  | n + 1, i + 1, lo, d, h => by
    rw [rngD, List.getElem?_cons_succ] at h
    rw [rng_get h]
    congr 1
    push_cast
    omega
theorem rng_len : ∀ {n : Nat} {lo : Int}, (rngD lo n).length = n
  | 0, _ => rfl
  | n + 1, lo => by rw [rngD, List.length_cons, rng_len]
theorem rIt_rng {lo : Int} {n : Nat} (hn : n ≤ sizeLine) : rIt K H (Al ρ M) ρ (rngD lo n) (Itr lo n) := by
  refine ⟨by rw [rng_len]; exact hn, _, _, by rw [rng_len]; exact walk_range, fun M0 ρ' M' H' e x rp => ⟨trivial, fun i d v H'' hd y => ?_⟩⟩
  obtain ⟨rfl, rfl⟩ := y
  rw [rng_get hd]
  exact ⟨rp, .refl, .int _⟩
theorem pair_new {ρ' : Pl} {M' : Sto} {H' : Hp} {u w : V} {du dw : D} {T : Addr} (rp : Rep K ρ' M' H') (hT : H' T = none) (q1 : RD K H' (Al ρ' M') ρ' du u) (q2 : RD K H' (Al ρ' M') ρ' dw w) :
    Rep K ρ' M' (upd H' T (.tup [u, w])) ∧ Ext ρ' M' H' ρ' M' (upd H' T (.tup [u, w])) ∧ RD K (upd H' T (.tup [u, w])) (Al ρ' M') ρ' (.pr [du, dw]) (.ref T) :=
  rp.newP hT (by show 2 ≤ sizeLine; rw [sizeLine_eq]; decide) (.cons q1 (.cons q2 .nil))
theorem enm_get : ∀ {ds : List D} {n i : Nat} {d : D}, (enmD n ds)[i]? = some d → ∃ e, ds[i]? = some e ∧ d = .pr [.int ((n + i : Nat) : Int), e]
  | [], _, _, _, h => by rw [enmD] at h; simp at h
  | x :: r, n, 0, d, h => by rw [enmD] at h; simp at h; exact ⟨x, rfl, h.symm⟩
  | x :: r, n, i + 1, d, h => by
    rw [enmD, List.getElem?_cons_succ] at h
    obtain ⟨e, h1, h2⟩ := enm_get h
    exact ⟨e, h1, by rw [h2, show n + 1 + i = n + (i + 1) by omega]⟩
theorem enm_len : ∀ {ds : List D} {n : Nat}, (enmD n ds).length = ds.length
  | [], _ => rfl
  | x :: r, n => by rw [enmD, List.length_cons, List.length_cons, enm_len]
theorem rIt_enm (h : H a = some (.lst vs)) (n : ¬ Al ρ M a) (hz : vs.length ≤ sizeLine) (r : RDs K H (Al ρ M) ρ ds vs) : rIt K H (Al ρ M) ρ (enmD 0 ds) (Ite K a) := by
  refine ⟨by rw [enm_len, r.length]; exact hz, _, _, by rw [enm_len, r.length]; exact walk_enum, fun M0 ρ' M' H' e x rp => ?_⟩
  rw [e] at r n
  refine ⟨.of (x.keep _ _ h not_lst n).1, fun i d v H'' hd y => ?_⟩
  obtain ⟨T, u, w, rfl, h2, rfl, h4, h5⟩ := y
  obtain ⟨de, g1, rfl⟩ := enm_get hd
  obtain ⟨u', k1, k2⟩ := r.get g1
  have h5 : vs[i]? = some w := h5
  rw [k1] at h5; cases h5
  cases h4
  rw [Nat.zero_add]
  exact pair_new rp h2 (.int _) (k2.wk x)
theorem zip_get : ∀ {ds es : List D} {i : Nat} {d : D}, (zipD ds es)[i]? = some d → ∃ e f, ds[i]? = some e ∧ es[i]? = some f ∧ d = .pr [e, f]
  | [], _, _, _, h => by rw [zipD] at h; simp at h; all_goals simp
  | _ :: _, [], _, _, h => by rw [zipD] at h; simp at h; all_goals simp
  | x :: r, y :: s, 0, d, h => by rw [zipD] at h; simp at h; exact ⟨x, y, rfl, rfl, h.symm⟩
  | x :: r, y :: s, i + 1, d, h => by
    rw [zipD, List.getElem?_cons_succ] at h
    obtain ⟨e, f, h1, h2, h3⟩ := zip_get h
    exact ⟨e, f, h1, h2, h3⟩
theorem zip_len : ∀ {ds es : List D}, (zipD ds es).length = min ds.length es.length
  | [], _ => by rw [zipD]; simp; all_goals simp
  | _ :: _, [] => by rw [zipD]; simp; all_goals simp
  | x :: r, y :: s => by rw [zipD, List.length_cons, List.length_cons, List.length_cons, zip_len]; omega
theorem rIt_zipT (hx : RD K H (Al ρ M) ρ (.tup ds) x) (hy : RD K H (Al ρ M) ρ (.tup es) y) : ∃ a b xs ys, x = .ref a ∧ y = .ref b ∧ SqT K H a xs ∧ SqT K H b ys ∧ rIt K H (Al ρ M) ρ (zipD ds es) (RZ.ItzT K a b) := by
  have key : ∀ {x : V} {ds : List D}, RD K H (Al ρ M) ρ (.tup ds) x → ∃ a vs, x = .ref a ∧ SqT K H a vs ∧ vs.length ≤ sizeLine ∧ RDs K H (Al ρ M) ρ ds vs ∧ ∀ M0 ρ' M' H', Al ρ M = Al ρ M0 → Wk ρ M0 H ρ' M' H' → SqT K H' a vs := by
    intro x ds h
    cases h with
    | tup h n z r =>
      obtain ⟨o, h, _⟩ := h
      exact ⟨_, _, rfl, .inl (.inr ⟨o, h⟩), z, r, fun M0 ρ' M' H' e x => by rw [e] at n; exact .inl (.inr ⟨o, (x.keep _ _ h not_frz n).1⟩)⟩
    | tupK h1 h2 h3 h4 h5 z r => exact ⟨_, _, rfl, .inr ⟨_, _, _, h1, h2.1, h3, h4, h5⟩, z, r, fun M0 ρ' M' H' e x => .inr ⟨_, _, _, h1, h2.1, h3, h4, h5⟩⟩
  obtain ⟨a, vs, rfl, ha, hz, r, sa⟩ := key hx
  obtain ⟨b, ws, rfl, hb, hz', r', sb⟩ := key hy
  refine ⟨a, b, vs, ws, rfl, rfl, ha, hb, by rw [zip_len, r.length]; omega, _, _, walk_zipT (by rw [zip_len, r.length, r'.length]), fun M0 ρ' M' H' e x rp => ?_⟩
  refine ⟨⟨sa M0 ρ' M' H' e x, sb M0 ρ' M' H' e x⟩, fun i d v H'' hd y => ?_⟩
  rw [e] at r r'
  obtain ⟨T, u, w, rfl, h2, rfl, h4, h5⟩ := y
  have h4 : vs[i]? = some u := h4
  have h5 : ws[i]? = some w := h5
  obtain ⟨de, df, g1, g2, rfl⟩ := zip_get hd
  obtain ⟨u', k1, k2⟩ := r.get g1
  obtain ⟨w', k3, k4⟩ := r'.get g2
  rw [k1] at h4; cases h4
  rw [k3] at h5; cases h5
  exact pair_new rp h2 (k2.wk x) (k4.wk x)
theorem rIt_zip (h : H a = some (.lst vs)) (n : ¬ Al ρ M a) (hz : vs.length ≤ sizeLine) (r : RDs K H (Al ρ M) ρ ds vs) (h' : H b = some (.lst ws)) (n' : ¬ Al ρ M b) (r' : RDs K H (Al ρ M) ρ es ws) : rIt K H (Al ρ M) ρ (zipD ds es) (Itz K a b) := by
  refine ⟨by rw [zip_len, r.length]; omega, _, _, walk_zip (by rw [zip_len, r.length, r'.length]), fun M0 ρ' M' H' e x rp => ?_⟩
  rw [e] at r n r' n'
  refine ⟨⟨.of (x.keep _ _ h not_lst n).1, .of (x.keep _ _ h' not_lst n').1⟩, fun i d v H'' hd y => ?_⟩
  obtain ⟨T, u, w, rfl, h2, rfl, h4, h5⟩ := y
  obtain ⟨de, df, g1, g2, rfl⟩ := zip_get hd
  obtain ⟨u', k1, k2⟩ := r.get g1
  obtain ⟨w', k3, k4⟩ := r'.get g2
  have h4 : vs[i]? = some u := h4
  have h5 : ws[i]? = some w := h5
  rw [k1] at h4; cases h4
  rw [k3] at h5; cases h5
  exact pair_new rp h2 (k2.wk x) (k4.wk x)
end
end Z


/-! Z11: what is walked (rules), comprehensions. -/
namespace Z
open PySem L2 PySem.Spec PyProof.Rows

/-- a list, a tuple, a text: whichever it is -/
def iAnyZ (K : PySem.W.Frag) (te : TE) : TI := fun σ H R => te σ H fun x H1 => (∃ a, x = .ref a ∧ (∃ xs, SqL K H1 a xs) ∧ R (Itl K a) H1) ∨ (∃ a, x = .ref a ∧ (∃ xs, SqT K H1 a xs) ∧ R (Itt K a) H1) ∨ ∃ z, x = .str z ∧ R (Its z) H1
section
variable {X : Cx} {ca : String → Addr} {W : WX} {C : Calls} {a b c : E} {pa pb pc tg : Expr} {pos apos p : Pos} {es : Es} {ps : List Expr} {x : Str}
theorem iter_new {pins : List (Addr × Obj)} {σ : L2.St} {H : Hp} {s : Shared} {R : L2.It → Hp → Prop} {J : L2.It} {tn : Nat → Heap → Prop} {tg : Expr} {o : Obj} {M : Model} (I : Inv X pins σ H s) (T : Turn X.prog X.w X.K tg J [s.heap.objs.size] s.heap.objs.size tn)
    (st : tn 0 (s.heap.push o)) (q : R J H) : PIE X pins σ tg R (.ref s.heap.objs.size) { s with heap := s.heap.push o } := by
  refine ⟨s.heap.objs.size, [s.heap.objs.size], tn, J, H, rfl, I.kept (t' := s.toks) fun b o e => Heap.get?_push_of_some _ e, T, st, ?_, q⟩
  intro b hb
  cases (List.mem_singleton.mp hb)
  exact I.fpOk (Nat.le_refl _) (I.hok.fresh (Nat.le_refl _))
theorem pi_anyZ {te : TE} (he : PE X pa te) : PI X tg pa (iAnyZ X.K te) := by
  constructor
  intro pins s σ H R I h
  refine thn (he.run pins s σ H _ I h) ?_
  rintro v s1 ⟨x, H1, I1, r1, q1⟩
  rcases q1 with ⟨a, rfl, ⟨xs, hq⟩, q⟩ | ⟨a, rfl, ⟨xs, hq⟩, q⟩ | ⟨z, rfl, q⟩
  · cases r1
    obtain ⟨its, rv, pl, hz⟩ := I1.list hq
    exact wpAny_pyIter_list pl.isList (iter_new (M := model X.prog X.w) I1 (turn_list a _) ⟨_, Heap.get?_push_size _ rfl, rfl, rfl⟩ q)
  · cases r1
    obtain ⟨its, rv, pl, hz⟩ := I1.tuple hq
    have ht : s1.heap.IsTuple a its.toArray := pl
    exact wpAny_pyIter_tuple ht (iter_new (M := model X.prog X.w) I1 (turn_tuple a _) ⟨_, Heap.get?_push_size _ rfl, rfl, rfl⟩ q)
  · obtain ⟨t, rfl⟩ := r1
    cases hw : z.cps.all (· < 128) with
    | false => exact wpAny_pyIter_wide hw (pi_one (tk := s1.toks) I1 _ (turn_str _ z t "str_iterator" (.inr rfl)) ⟨_, Heap.get?_push_size _ rfl, rfl, rfl⟩ q)
    | true => exact wpAny_pyIter_ascii hw (pi_one (tk := s1.toks) I1 _ (turn_str _ z t "str_ascii_iterator" (.inl rfl)) ⟨_, Heap.get?_push_size _ rfl, rfl, rfl⟩ q)
theorem pi_imp {u v : TI} (h : PI X tg pa u) (i : ∀ σ H R, v σ H R → u σ H R) : PI X tg pa v := ⟨fun pins s σ H R I q => h.run pins s σ H R I (i _ _ _ q)⟩
theorem zi_sq (ha : PE X pa (zE X ca W C a)) : PI X tg pa (zI X ca W C (.sq a)) := by
  refine pi_imp (pi_anyZ ha) fun σ H R h => ?_
  obtain ⟨ρ, env, M, rp, re, f⟩ := h
  dsimp only [evIt] at f
  refine ⟨ρ, env, M, rp, re, (f.bind (R1 := rDD X.K)).imp ?_⟩
  rintro x H1 ⟨ρ1, M1, d1, rp1, x1, q1, f1⟩
  cases d1 with
  | str s =>
    dsimp only [walkD] at f1
    cases hf : fitLen s.length with
    | false => rw [if_neg (by rw [hf]; decide)] at f1; exact f1.elim
    | true =>
      rw [if_pos hf] at f1
      rw [q1.str_inv]
      exact .inr (.inr ⟨s, rfl, f1.ok rp1 (rIt_str hf)⟩)
  | tup xs =>
    obtain ⟨a, rfl, h1, h2⟩ := rIt_tup q1
    exact .inr (.inl ⟨a, rfl, h1, f1.ok rp1 h2⟩)
  | lst xs =>
    obtain ⟨a, vs, rfl, h1, hn, h2, h3⟩ := q1.lst_inv
    exact .inl ⟨a, rfl, ⟨vs, .of h1⟩, f1.ok rp1 (rIt_list h1 hn h2 h3)⟩
  | scr xs =>
    obtain ⟨a, rfl, h1, h2⟩ := rIt_scr q1
    exact .inl ⟨a, rfl, h1, f1.ok rp1 h2⟩
  | _ => exact f1.elim
theorem zi_rng (hg : Gl X "range") (hm : X.mg "range" = none) (hp : ps.all plainX = true) (ha : PA X ps (zEs X ca W C es)) (hl : ps.length = 1 ∨ ps.length = 2) (he : es.len = ps.length) : PI X tg (.Call (.Name "range" p) ps [] pos) (zI X ca W C (.rng es)) := by
  have fin : ∀ σ H R, zI X ca W C (.rng es) σ H R → zEs X ca W C es σ H fun vs H1 => vs.length = es.len ∧ ((∃ j : Int, vs = [.int j] ∧ -(2 ^ 62) ≤ j ∧ j < 2 ^ 62 ∧ R (Itr 0 j.toNat) H1) ∨ ∃ i j : Int, vs = [.int i, .int j] ∧ (-(2 ^ 62) ≤ i ∧ i < 2 ^ 62 ∧ -(2 ^ 62) ≤ j ∧ j < 2 ^ 62) ∧ R (Itr i (j - i).toNat) H1) := by
    intro σ H R ⟨ρ, env, M, rp, re, f⟩
    dsimp only [evIt] at f
    refine ⟨ρ, env, M, rp, re, (f.bindE (R1 := rDs X.K)).imp ?_⟩
    rintro vs H1 ⟨ρ1, M1, d1, e1, rp1, x1, q1, f1⟩
    refine ⟨by rw [← q1.length]; exact evEs_len e1, ?_⟩
    split at f1
    · rename_i n
      obtain ⟨hz, f1⟩ := f1.ites
      obtain ⟨v, rfl, q⟩ := q1.one
      have hn : n.natAbs ≤ 1000000 := of_decide_eq_true hz
      exact .inl ⟨n, by rw [q.int_inv], by omega, by omega, f1.ok rp1 (rIt_rng (by rw [sizeLine_eq]; omega))⟩
    · rename_i lo hi
      obtain ⟨hz, f1⟩ := f1.ites
      rw [Bool.and_eq_true] at hz
      have h1 : lo.natAbs ≤ 1000000 := of_decide_eq_true hz.1
      have h2 : hi.natAbs ≤ 1000000 := of_decide_eq_true hz.2
      obtain ⟨v, w, rfl, q, q'⟩ := q1.two
      exact .inr ⟨lo, hi, by rw [q.int_inv, q'.int_inv], by omega, f1.ok rp1 (rIt_rng (by rw [sizeLine_eq]; omega))⟩
    · exact f1.elim
  match ps, hl with
  | [q], _ =>
    rw [List.all_cons, Bool.and_eq_true] at hp
    have s1 := starEach_plain (es := []) (env := X.env) hp.1
    refine pi_imp (pi_range1 hg hm ha s1) fun σ H R h => ?_
    obtain ⟨ρ, env, M, rp, re, f⟩ := fin σ H R h
    refine ⟨ρ, env, M, rp, re, f.imp fun vs H1 ⟨hv, h1⟩ => ?_⟩
    rcases h1 with ⟨j, e, h1⟩ | ⟨i, j, e, h1⟩
    · exact ⟨j, e, h1⟩
    · rw [e, he] at hv; cases hv
  | [q, q2], _ =>
    rw [List.all_cons, Bool.and_eq_true, List.all_cons, Bool.and_eq_true] at hp
    have s2 := starEach_plain (es := []) (env := X.env) hp.2.1
    have s1 := starEach_plain (es := [q2]) (env := X.env) hp.1
    rw [s2] at s1
    refine pi_imp (pi_range2 hg hm ha s1 s2) fun σ H R h => ?_
    obtain ⟨ρ, env, M, rp, re, f⟩ := fin σ H R h
    refine ⟨ρ, env, M, rp, re, f.imp fun vs H1 ⟨hv, h1⟩ => ?_⟩
    rcases h1 with ⟨j, e, h1⟩ | ⟨i, j, e, h1⟩
    · rw [e, he] at hv; cases hv
    · exact ⟨i, j, e, h1⟩
theorem zi_enm {elts : List Expr} {kk : Nat} {tpos : Pos} (hg : Gl X "enumerate") (hm : X.mg "enumerate" = none) (hp : plainX pa = true) (ha : PE X pa (zE X ca W C a)) : PI X (.Tuple elts kk tpos) (.Call (.Name "enumerate" p) [pa] [] pos) (zI X ca W C (.enm a)) := by
  refine pi_imp (pi_enum hg hm (za_cons (es := .nil) hp ha za_nil) (starEach_plain hp)) fun σ H R h => ?_
  obtain ⟨ρ, env, M, rp, re, f⟩ := h
  dsimp only [evIt] at f
  refine ⟨ρ, env, M, rp, re, ?_⟩
  dsimp only [evEs]
  rw [show (evE C a env M).bind (fun x M1 => (Res.ok [] M1 : Res (List D)).bind fun xs M2 => .ok (x :: xs) M2) = (evE C a env M).bind (fun x M1 => .ok [x] M1) from rfl]
  have g := f.bind (R1 := rDD X.K)
  cases he : evE C a env M with
  | ok d1 M1 =>
    rw [he] at g
    intro ρ' H' b rp' x' q'
    obtain ⟨v, rfl, qv⟩ := RDs.one q'
    obtain ⟨ρ1, M1', a1, rp1, x1, q1, f1⟩ := g ρ' H' v rp' x' qv
    cases a1 <;> first | exact f1.elim | skip
    obtain ⟨l, vs, rfl, h1, hn, h2, h3⟩ := q1.lst_inv
    exact ⟨l, vs, rfl, .of h1, f1.ok rp1 (rIt_enm h1 hn h2 h3)⟩
  | exc c p M1 => rw [he] at g; exact g
  | fail => rw [he] at g; exact g
theorem zi_zip {elts : List Expr} {kk : Nat} {tpos : Pos} (hg : Gl X "zip") (hm : X.mg "zip" = none) (hp : plainX pa = true) (hp' : plainX pb = true) (ha : PE X pa (zE X ca W C a)) (hb : PE X pb (zE X ca W C b)) :
    PI X (.Tuple elts kk tpos) (.Call (.Name "zip" p) [pa, pb] [] pos) (zI X ca W C (.zip a b)) := by
  have s2 := starEach_plain (es := []) (env := X.env) hp'
  have s1 := starEach_plain (es := [pb]) (env := X.env) hp
  refine pi_imp (RZ.pi_zipA hg hm (pa_cons ha (pa_cons hb pa_nil s2) s1) s1 (by rw [s2]; rfl)) fun σ H R h => ?_
  obtain ⟨ρ, env, M, rp, re, f⟩ := h
  dsimp only [evIt] at f
  refine ⟨ρ, env, M, rp, re, (f.bind (R1 := rDD X.K)).imp ?_⟩
  rintro x H1 ⟨ρ1, M1, d1, rp1, x1, q1, f1⟩
  refine ⟨ρ1, env, M1, rp1, re.ext x1, (f1.bind (R1 := rDD X.K)).imp ?_⟩
  rintro y H2 ⟨ρ2, M2, d2, rp2, x2, q2, f2⟩
  have q1 := RD.ext x2 q1
  split at f2
  · obtain ⟨l, vs, rfl, h1, hn, h2, h3⟩ := q1.lst_inv
    obtain ⟨l', ws, rfl, h1', hn', h2', h3'⟩ := q2.lst_inv
    exact ⟨l, l', vs, ws, rfl, .inl ⟨.of h1, .of h1', f2.ok rp2 (rIt_zip h1 hn h2 h3 h1' hn' h3')⟩⟩
  · obtain ⟨l, l', vs, ws, rfl, rfl, h1, h2, h3⟩ := rIt_zipT q1 q2
    exact ⟨l, l', vs, ws, rfl, .inr ⟨h1, h2, f2.ok rp2 h3⟩⟩
  · exact f2.elim
end
end Z


/-! Z12: comprehensions. -/
namespace Z
open PySem L2 PySem.Spec PyProof.Rows

def W0 : WX := fun _ _ _ _ => False
/-- the place that is hidden, shown again -/
def Pl.un (ρ : Pl) (h : List Addr) : Pl := ⟨ρ.l, h⟩
section
variable {K : PySem.W.Frag} {ρ1 ρ2 ρ3 : Pl} {M1 M2 M3 : Sto} {H1 H2 H3 : Hp} {D : Addr}
theorem al_un {b : Addr} (hh : ρ2.hid = D :: ρ1.hid) : Al ρ2 M2 b ↔ (b = D ∨ Al (ρ2.un ρ1.hid) M2 b) := by
  constructor
  · rintro (h | h)
    · rw [hh] at h
      rcases List.mem_cons.mp h with h | h
      · exact .inl h
      · exact .inr (.inl h)
    · exact .inr (.inr h)
  · rintro (h | h | h)
    · exact .inl (by rw [hh, h]; exact List.mem_cons_self)
    · exact .inl (by rw [hh]; exact List.mem_cons_of_mem _ h)
    · exact .inr h
theorem ext_un (hh : ρ2.hid = D :: ρ1.hid) (hD : H1 D = none) (x : Ext ρ1 M1 H1 (ρ2.un ρ1.hid) M2 H2) (y : Ext ρ2 M2 H2 ρ3 M3 H3) : ρ3.hid = D :: ρ1.hid ∧ Ext ρ1 M1 H1 (ρ3.un ρ1.hid) M3 H3 := by
  have h3 : ρ3.hid = D :: ρ1.hid := y.hid.trans hh
  refine ⟨h3, ?_, rfl, fun b hb => ?_, fun b o hb tb nb => ?_⟩
  · obtain ⟨t, ht⟩ := x.pre
    obtain ⟨u, hu⟩ := y.pre
    exact ⟨t ++ u, by show ρ3.l = _; rw [hu, show ρ2.l = _ from ht, List.append_assoc]⟩
  · exact (y.hk b (by rw [hh]; exact List.mem_cons_of_mem _ hb)).trans (x.hk b hb)
  · obtain ⟨g1, g2⟩ := x.keep b o hb tb nb
    have hne : b ≠ D := by rintro rfl; rw [hD] at hb; cases hb
    obtain ⟨k1, k2⟩ := y.keep b o g1 tb fun z => by
      rcases (al_un hh).mp z with z | z
      · exact hne z
      · exact g2 z
    exact ⟨k1, fun z => k2 ((al_un h3).mpr (.inr z))⟩
theorem ext_atD {o : HO} (rp : Rep K ρ1 M1 H1) (hD : H1 D = none) (x : Ext ρ1 M1 H1 (ρ2.un ρ1.hid) M2 H2) : Ext ρ1 M1 H1 (ρ2.un ρ1.hid) M2 (upd H2 D o) := by
  refine ⟨x.pre, rfl, fun b hb => ?_, fun b w hb tb nb => ?_⟩
  · obtain ⟨_, u, hu⟩ := rp.hid b hb
    rw [upd_ne (ne_of_none hu hD)]; exact x.hk b hb
  · rw [upd_ne (ne_of_none hb hD)]; exact x.keep b w hb tb nb
theorem rep_atD {xs : List V} (hm : D ∈ ρ2.hid) (rp : Rep K ρ2 M2 H2) : Rep K ρ2 M2 (upd H2 D (.lst xs)) ∧ Wk ρ2 M2 H2 ρ2 M2 (upd H2 D (.lst xs)) := by
  have w : Wk ρ2 M2 H2 ρ2 M2 (upd H2 D (.lst xs)) := ⟨fun _ _ h => h, fun b u hb _ nb => ⟨by rw [upd_ne (fun e => nb (.inl (by rw [e]; exact hm)))]; exact hb, nb⟩⟩
  refine ⟨⟨rp.len, rp.nd, fun i a u h1 h2 => (rp.obj i a u h1 h2).wk w (upd_ne fun e => ?_), fun b hb => ⟨(rp.hid b hb).1, ?_⟩, rp.tab.same (fun _ _ h => h) (fun _ _ h => h) fun b u hb hc => ?_⟩, w⟩
  · exact (rp.hid D hm).1 (by rw [← e]; exact List.mem_of_getElem? h1)
  · by_cases e : b = D
    · subst e; exact ⟨xs, upd_same⟩
    · rw [upd_ne e]; exact (rp.hid b hb).2
  · obtain ⟨_, ys, hy⟩ := rp.hid D hm
    rw [upd_ne (fun e => by rw [e, hy] at hb; cases hb; exact cod_lst hc)]; exact hb
/-- without what was made -/
def off (H : Hp) (D : Addr) : Hp := fun b => if b = D then none else H b
theorem off_upd {o : HO} (h : H2 D = some o) : upd (off H2 D) D o = H2 := by
  funext b
  by_cases e : b = D
  · subst e; rw [upd_same, h]
  · rw [upd_ne e]; unfold off; rw [if_neg e]
theorem rep_off (hh : ρ2.hid = D :: ρ1.hid) (r1 : Rep K ρ1 M1 H1) (hD : H1 D = none) (rp : Rep K ρ2 M2 H2) : Rep K (ρ2.un ρ1.hid) M2 (off H2 D) ∧ Wk ρ2 M2 H2 (ρ2.un ρ1.hid) M2 (off H2 D) := by
  have hm : D ∈ ρ2.hid := by rw [hh]; exact List.mem_cons_self
  have w : Wk ρ2 M2 H2 (ρ2.un ρ1.hid) M2 (off H2 D) := ⟨fun _ _ h => h, fun b u hb _ nb => ⟨by unfold off; rw [if_neg (fun e => nb (.inl (by rw [e]; exact hm)))]; exact hb, fun z => nb ((al_un hh).mpr (.inr z))⟩⟩
  refine ⟨⟨rp.len, rp.nd, fun i a u h1 h2 => (rp.obj i a u h1 h2).wk w ?_, fun b hb => ?_, rp.tab.same (fun _ _ h => h) (fun q hq hn hb => hn (by rw [hh]; exact List.mem_cons_of_mem _ hb)) fun b u hb hc => ?_⟩, w⟩
  · unfold off
    rw [if_neg fun e => (rp.hid D hm).1 (by rw [← e]; exact List.mem_of_getElem? h1)]
  · obtain ⟨g1, g2⟩ := rp.hid b (by rw [hh]; exact List.mem_cons_of_mem _ hb)
    obtain ⟨_, u, hu⟩ := r1.hid b hb
    refine ⟨g1, ?_⟩
    unfold off
    rw [if_neg (ne_of_none hu hD)]
    exact g2
  · obtain ⟨_, ys, hy⟩ := rp.hid D hm
    unfold off
    rw [if_neg (fun e => by rw [e, hy] at hb; cases hb; exact cod_lst hc)]; exact hb
end
theorem Fi.calm {α β : Type} {K : PySem.W.Frag} {ca : String → Addr} {R : Rl α β} {W : WX} {σ : L2.St} {ρ : Pl} {M : Sto} {H : Hp} {Q : β → Hp → Prop} {r : Res α} (h : ∀ a M1, r = .ok a M1 → Fi K ca R W σ ρ M H (.ok a M1) Q) (n : ∃ a M1, r = .ok a M1) : Fi K ca R W σ ρ M H r Q := by
  obtain ⟨a, M1, e⟩ := n
  rw [e]; exact h a M1 e
theorem calm_inv {α β γ : Type} {K : PySem.W.Frag} {ca : String → Addr} {R : Rl α β} {W : WX} {σ : L2.St} {ρ : Pl} {M : Sto} {H : Hp} {Q : β → Hp → Prop} {r : Res γ} {f : γ → Sto → Res α} (h : Fi K ca R W σ ρ M H (r.calm.bind f) Q) : ∃ a M1, r = .ok a M1 ∧ Fi K ca R W σ ρ M H (f a M1) Q := by
  cases r with
  | ok a M1 => exact ⟨a, M1, rfl, h⟩
  | exc c p M1 => exact h.elim
  | fail => exact h.elim
abbrev zC (X : Cx) (ca : String → Addr) (W : WX) (C : Calls) (c : Oe) : TT := rd X.K ca rId W fun env M => evC C c env M
section
variable {X : Cx} {ca : String → Addr} {W : WX} {C : Calls}
theorem pts_non : PTs X [] (zC X ca W C .non) := ⟨fun pins s σ H Q I ⟨ρ, env, M, rp, re, f⟩ => pts_nil.run pins s σ H Q I (by dsimp only [evC] at f; exact Fi.ok (R := rId) rp rfl f)⟩
theorem pts_som {e : E} {pe : Expr} (h : PT X pe (zT X ca W C e)) : PTs X [pe] (zC X ca W C (.som e)) := ⟨fun pins s σ H Q I h' => (pts_one h).run pins s σ H Q I h'⟩
theorem comp_core {m : Bool} {el : E} {t : Tg} {it : Z.It} {c : Oe} {own : List Nat} (hsl : ∀ i ∈ t.slots, i ∈ own) :
    ∀ σ H Q, zE X ca W C (.comp m el t it c own) σ H Q → tLc (zI X ca W C it) (zG X.K t) (zC X ca W0 C c) (zE X ca W0 C el) own σ H Q := by
  intro σ H Q ⟨ρ, env, M, rp, re, f⟩
  dsimp only [evE] at f
  refine ⟨ρ, env, M, rp, re, (f.bind (R1 := rIt X.K)).imp ?_⟩
  rintro J H1 ⟨ρ1, M1, items, rp1, x1, ⟨hz, G, Y, w, st⟩, f1⟩
  intro D hD
  let P : Nat → Hp → Prop := fun i H => ∃ ρ2 M2 accD accV, ρ2.hid = D :: ρ1.hid ∧ Ext ρ1 M1 H1 (ρ2.un ρ1.hid) M2 H ∧ Rep X.K ρ2 M2 H ∧ H D = some (.lst accV) ∧ RDs X.K H (Al ρ2 M2) ρ2 accD accV ∧ accV.length ≤ i ∧
    Fi X.K ca (rDD X.K) W σ ρ1 M1 H1 ((compGo t (fun env M => evC C c env M) (fun env M => evE C el env M) (wipeE env own) (items.drop i) M2).bind fun ys M3 => newList m (accD ++ ys) M3) Q
  have wk1 : ∀ {ρ2 : Pl} {M2 : Sto} {H2 : Hp}, ρ2.hid = D :: ρ1.hid → Ext ρ1 M1 H1 (ρ2.un ρ1.hid) M2 H2 → Wk ρ1 M1 H1 ρ2 M2 H2 := by
    intro ρ2 M2 H2 hh x
    refine ⟨fun i a h => x.at (ρ' := ρ2.un ρ1.hid) h, fun b o hb tb nb => ?_⟩
    obtain ⟨g1, g2⟩ := x.keep b o hb tb nb
    refine ⟨g1, fun z => ?_⟩
    rcases (al_un hh).mp z with z | z
    · rw [z, hD] at hb; cases hb
    · exact g2 z
  refine lc_it w (Pv := P) ?_ ?_ ?_ ?_
  · -- the start
    refine ⟨⟨ρ1.l, D :: ρ1.hid⟩, M1, [], [], rfl, ?_, ?_, upd_same, .nil, Nat.le_refl _, by rw [List.drop_zero]; exact f1⟩
    · exact ext_atD (ρ2 := ⟨ρ1.l, D :: ρ1.hid⟩) rp1 hD .refl
    · have w1 : Wk ρ1 M1 H1 ⟨ρ1.l, D :: ρ1.hid⟩ M1 (upd H1 D (.lst [])) := wk1 (ρ2 := ⟨ρ1.l, D :: ρ1.hid⟩) rfl (ext_atD (ρ2 := ⟨ρ1.l, D :: ρ1.hid⟩) rp1 hD .refl)
      refine ⟨rp1.len, rp1.nd, fun i a u h1 h2 => ?_, fun b hb => ?_, rp1.tab.same (fun _ _ h => h) (fun q hq hn hb => ?_) fun b u hb hc => by rw [upd_ne (ne_of_none hb hD)]; exact hb⟩
      · obtain ⟨q, hq⟩ := rp1.there h1
        exact (rp1.obj i a u h1 h2).wk w1 (upd_ne (ne_of_none hq hD))
      · rcases List.mem_cons.mp hb with e | hb
        · subst e
          exact ⟨rp1.off hD, _, upd_same⟩
        · obtain ⟨g1, u, g2⟩ := rp1.hid b hb
          exact ⟨g1, u, by rw [upd_ne (ne_of_none g2 hD)]; exact g2⟩
      · rcases List.mem_cons.mp hb with e | hb
        · obtain ⟨ps, g⟩ := rp1.tab.at hq
          rw [e, hD] at g; cases g
        · exact hn hb
  · rintro i H2 hi ⟨ρ2, M2, accD, accV, hh, x2, rp2, hDv, qs, hl, f2⟩
    exact (st M1 ρ2 M2 H2 rfl (wk1 hh x2) rp2).1
  · -- a turn
    rintro i x H2 H2' hi ⟨ρ2, M2, accD, accV, hh, x2, rp2, hDv, qs, hl, f2⟩ y
    have hgi : items[i]? = some items[i] := List.getElem?_eq_getElem hi
    obtain ⟨rp3, x3, qx⟩ := (st M1 ρ2 M2 H2 rfl (wk1 hh x2) rp2).2 i items[i] x H2' hgi y
    rw [List.drop_eq_getElem_cons hi] at f2
    unfold compGo at f2
    split at f2
    · exact f2.elim
    rename_i env1 he
    have re3 : RE X.K ρ2 M2 H2' (wipeE env own) (L2.wipe σ own) := (((re.ext x1).wk (wk1 hh x2)).ext x3).wipe own
    refine ⟨ρ2, wipeE env own, M2, items[i], env1, rp3, re3, qx, he, fun σ1 re1 hw => ⟨by rw [hw own hsl, wipe_wipe], ?_⟩⟩
    rw [bind_assoc] at f2
    obtain ⟨b, M3, hc, f3⟩ := calm_inv f2
    refine ⟨ρ2, env1, M2, rp3, re1, ?_⟩
    show Fi X.K ca rId W0 σ1 ρ2 M2 H2' (evC C c env1 M2) _
    rw [hc]
    intro ρ3 H3 b' rp4 x4 eb
    cases eb
    obtain ⟨hh3, x23⟩ := ext_un hh hD (ext_un hh hD x2 x3).2 x4
    cases b with
    | false =>
      rw [if_neg (by decide)]
      rw [if_neg (by decide)] at f3
      exact ⟨ρ3, M3, accD, accV, hh3, x23, rp4, by rw [x4.hk D (by rw [hh]; exact List.mem_cons_self), x3.hk D (by rw [hh]; exact List.mem_cons_self)]; exact hDv, (qs.ext x3).ext x4, by omega, f3⟩
    | true =>
      rw [if_pos rfl]
      rw [if_pos rfl, bind_assoc] at f3
      obtain ⟨yd, M4, hy, f4⟩ := calm_inv f3
      refine ⟨ρ3, env1, M3, rp4, re1.ext x4, ?_⟩
      show Fi X.K ca (rDD X.K) W0 σ1 ρ3 M3 H3 (evE C el env1 M3) _
      rw [hy]
      intro ρ4 H4 yv rp5 x5 qy
      obtain ⟨hh4, x24⟩ := ext_un hh3 hD x23 x5
      have hm4 : D ∈ ρ4.hid := by rw [hh4]; exact List.mem_cons_self
      have hD4 : H4 D = some (.lst accV) := by
        rw [x5.hk D (by rw [hh3]; exact List.mem_cons_self), x4.hk D (by rw [hh]; exact List.mem_cons_self), x3.hk D (by rw [hh]; exact List.mem_cons_self)]; exact hDv
      obtain ⟨rp6, w6⟩ := rep_atD (xs := accV ++ [yv]) hm4 rp5
      refine ⟨accV, hD4, by omega, ρ4, M4, accD ++ [yd], accV ++ [yv], hh4, ext_atD rp1 hD x24, rp6, upd_same, ((((qs.ext x3).ext x4).ext x5).append (.cons qy .nil)).wk w6, by rw [List.length_append]; show _ + 1 ≤ _; omega, ?_⟩
      rw [bind_assoc] at f4
      simp only [bind_ok] at f4
      simp only [List.append_assoc, List.singleton_append]
      exact f4
  · -- the end
    rintro H2 ⟨ρ2, M2, accD, accV, hh, x2, rp2, hDv, qs, hl, f2⟩
    rw [List.drop_length] at f2
    unfold compGo at f2
    rw [bind_ok, List.append_nil] at f2
    obtain ⟨rp3, w3⟩ := rep_off hh rp1 hD rp2
    have x3 : Ext ρ1 M1 H1 (ρ2.un ρ1.hid) M2 (off H2 D) := by
      refine ⟨x2.pre, rfl, fun b hb => ?_, fun b o hb tb nb => ?_⟩
      · obtain ⟨_, u, hu⟩ := rp1.hid b hb
        unfold off
        rw [if_neg (ne_of_none hu hD)]; exact x2.hk b hb
      · unfold off
        rw [if_neg (ne_of_none hb hD)]; exact x2.keep b o hb tb nb
    have e := newList_rd (xs := accD) (vs := accV) (m := m) rp3 (qs.wk w3) (by omega) (f2.go x3) D (by unfold off; rw [if_pos rfl])
    rw [off_upd hDv] at e
    exact e
end
end Z


/-! Z13: the last rules for expressions. -/
namespace Z
open PySem L2 PySem.Spec PyProof.Rows
theorem rep_more {K : PySem.W.Frag} {ρ : Pl} {M : Sto} {H1 H2 : Hp} (rp : Rep K ρ M H1) (h : ∀ b o, H1 b = some o → H2 b = some o) : Rep K ρ M H2 ∧ Ext ρ M H1 ρ M H2 := by
  have hq : ∀ b ∈ ρ.hid, H2 b = H1 b := fun b hb => by
    obtain ⟨_, u, hu⟩ := rp.hid b hb
    rw [hu, h b _ hu]
  have x : Ext ρ M H1 ρ M H2 := ⟨⟨[], by simp⟩, rfl, hq, fun b o hb _ nb => ⟨h b o hb, nb⟩⟩
  refine ⟨⟨rp.len, rp.nd, fun i a u h1 h2 => ?_, fun b hb => ⟨(rp.hid b hb).1, by rw [hq b hb]; exact (rp.hid b hb).2⟩, rp.tab.same (fun _ _ h => h) (fun _ _ h => h) fun b o hb _ => h b o hb⟩, x⟩
  obtain ⟨w, hw⟩ := rp.there h1
  exact (rp.obj i a u h1 h2).ext x (by rw [hw, h a w hw])
section
variable {X : Cx} {ca : String → Addr} {W : WX} {C : Calls} {a b c : E} {pa pb pc : Expr} {pos apos p p1 p2 p3 : Pos} {es : Es} {ps : List Expr} {x : Str}
theorem z_sset {m : Bool} (hc : X.calm = true) (hg : Gl X "sorted") (hm : X.mg "sorted" = none) (hg2 : Gl X "set") (hm2 : X.mg "set" = none) (ha : PE X pa (zE X ca W C a)) (hp : plainX pa = true) :
    PE X (.Call (.Name "sorted" p1) [.Call (.Name "set" p2) [pa] [] p3] [] pos) (zE X ca W C (.bi .sset m (.cons a .nil))) := by
  refine pe_imp (pe_sset hc hg hm hg2 hm2 ha (starEach_plain hp)) fun σ H Q h => ?_
  obtain ⟨ρ, env, M, rp, re, f⟩ := h
  dsimp only [evE, evEs] at f
  rw [bind_assoc] at f
  refine ⟨ρ, env, M, rp, re, (f.bind (R1 := rDD X.K)).imp ?_⟩
  rintro x H1 ⟨ρ1, M1, d1, rp1, x1, q1, f1⟩
  rw [bind_ok, bind_ok] at f1
  unfold biD at f1
  split at f1 <;> try (exact f1.elim)
  all_goals try (rename_i hh; exact absurd hh (by decide))
  all_goals try (rename_i hh _; exact absurd hh (by decide))
  rename_i xs hb he
  cases he
  obtain ⟨bs, e, f1⟩ := f1.ofO
  obtain ⟨hl, f1⟩ : bs.length < 2000 ∧ Fi X.K ca (rDD X.K) W σ ρ1 M1 H1 (newList m ((sortStr (dedupStr bs)).map .str) M1) Q := by
    by_cases hl : bs.length < 2000
    · rw [if_pos hl] at f1; exact ⟨hl, f1⟩
    · rw [if_neg hl] at f1; exact f1.elim
  obtain ⟨l, vs, rfl, h1, hn, h2, h3⟩ := q1.lst_inv
  rw [strs_rd h3 e] at h1
  refine sset_go rfl (.of h1) hl fun H2 r hk hr => ?_
  obtain ⟨rp2, x2⟩ := rep_more rp1 hk
  have hz : ((sortStr (dedupStr bs)).map V.str).length ≤ sizeLine := by
    have h4 : ∀ l : List Str, (dedupStr l).length ≤ l.length := by
      intro l
      induction l with
      | nil => exact Nat.le_refl _
      | cons y r ih =>
        rw [dedupStr]
        split
        · rw [List.length_cons]; omega
        · rw [List.length_cons, List.length_cons]; omega
    have h5 := h4 bs
    rw [List.length_map, (sortStr_perm _).length_eq, sizeLine_eq]
    omega
  exact newList_rd rp2 (rds_strs _) hz (f1.go x2) r hr
/-- dict(zip(keys, values)) -/
theorem z_dzip {m : Bool} {es : Es} {pb : Expr} (hc : X.calm = true) (hg : Gl X "dict") (hm : X.mg "dict" = none) (hg2 : Gl X "zip") (hm2 : X.mg "zip" = none) (ha : PA X [pa, pb] (zEs X ca W C es)) (hp : [pa, pb].all plainX = true) :
    PE X (.Call (.Name "dict" p1) [.Call (.Name "zip" p2) [pa, pb] [] p3] [] pos) (zE X ca W C (.bi .dzip m es)) := by
  have hp' := hp
  rw [List.all_cons, Bool.and_eq_true] at hp'
  refine pe_imp (pe_dictzip hc hg hm hg2 hm2 ha (starEach_plain hp'.1) (backTo_plain hp'.2)) fun σ H Q h => ?_
  obtain ⟨ρ, env, M, rp, re, f⟩ := h
  dsimp only [evE] at f
  refine ⟨ρ, env, M, rp, re, (f.bind (R1 := rDs X.K)).imp ?_⟩
  rintro xs H1 ⟨ρ1, M1, d1, rp1, x1, q1, f1⟩
  unfold biD at f1
  split at f1 <;> try (exact f1.elim)
  all_goals try (rename_i hh; exact absurd hh (by decide))
  all_goals try (rename_i hh _; exact absurd hh (by decide))
  rename_i us ws hb
  obtain ⟨ks, e, f1⟩ := f1.ofO
  obtain ⟨u, v, rfl, qu, qv⟩ := q1.two
  obtain ⟨a, vs, rfl, h1, _, h2, h3⟩ := qu.lst_inv
  obtain ⟨b, ys, rfl, k1, _, k2, k3⟩ := qv.lst_inv
  have e2 := keysL_rd h3 e
  rw [e2] at h1
  refine ⟨a, b, ks, ys, rfl, .of h1, .of k1, fun p hp2 => ?_⟩
  have hz : (mergeK [] (ks.zip ys)).length ≤ sizeLine := by
    have h4 := length_mergeK (ks.zip ys) []
    rw [List.length_nil, Nat.zero_add, List.length_zip] at h4
    have : ys.length ≤ sizeLine := k2
    omega
  obtain ⟨r1, x2, e1⟩ := rp1.newD hp2 hz ((zip_rks (ks := ks) k3).merge .nil)
  exact f1 _ _ _ r1 x2 (.loc e1)
/-- the kinds' names -/
def tysC : List Ty → List Expr → Bool
  | [], [] => true
  | t :: ts, .Name x _ :: qs => decide (x = tyN t) && decide (t ≠ .non) && tysC ts qs
  | _, _ => false
theorem pa_tys : ∀ {ts : List Ty} {qs : List Expr}, (∀ t ∈ ts, Gl X (tyN t) ∧ X.mg (tyN t) = none) → tysC ts qs = true → PA X qs (fun _ H Q => Q (ts.map fun t => .ty (tyS t)) H) ∧ ∀ t ∈ ts, t ≠ .non
  | [], [], _, _ => ⟨pa_imp pa_nil fun _ _ _ h => h, fun _ h => nomatch h⟩
  | [], _ :: _, _, h => by unfold tysC at h; cases h
  | _ :: _, [], _, h => by unfold tysC at h; cases h
  | t :: ts, e :: qs, hg, h => by
    cases e <;> try (unfold tysC at h; cases h; done)
    unfold tysC at h
    rw [Bool.and_eq_true, Bool.and_eq_true] at h
    obtain ⟨⟨h1, h2⟩, h3⟩ := h
    have h1 := of_decide_eq_true h1
    have h2 := of_decide_eq_true h2
    obtain ⟨g1, g2⟩ := pa_tys (fun u hu => hg u (List.mem_cons_of_mem _ hu)) h3
    subst h1
    obtain ⟨k1, k2⟩ := hg t List.mem_cons_self
    refine ⟨pa_imp (pa_cons (pe_bltn k1 k2 (ty_boot t h2) (v := .ty (tyS t)) rfl (ty_name t).1 (ty_name t).2) g1) fun σ H Q h => h, fun u hu => ?_⟩
    rcases List.mem_cons.mp hu with rfl | hu
    · exact h2
    · exact g2 u hu
theorem paired_tys : ∀ ts : List Ty, Paired ClsV (ts.map fun t => V.ty (tyS t)) (ts.map fun t => Value.type (tyS t))
  | [] => .nil
  | _ :: r => .cons (.ty _) (paired_tys r)
theorem z_isiT {ts : List Ty} {qs : List Expr} {k : Nat} (hg : Gl X "isinstance") (hm : X.mg "isinstance" = none) (ht : ∀ t ∈ ts, Gl X (tyN t) ∧ X.mg (tyN t) = none) (hq : tysC ts qs = true) (hl : fitLen ts.length = true) (ha : PE X pa (zE X ca W C a)) (hp : plainX pa = true) :
    PE X (.Call (.Name "isinstance" p1) [pa, .Tuple qs k p2] [] pos) (zE X ca W C (.isi a false ts)) := by
  obtain ⟨g1, g2⟩ := pa_tys ht hq
  refine pe_imp (pe_callB call_isiT hg hm rfl (pa_cons ha (pa_cons (pe_tup g1) pa_nil) (starEach_plain hp)) (by decide) (by decide) (starEach_plain hp) rfl) fun σ H Q h => rd1 (R := fun Q x H => (ts.map fun t => V.ty (tyS t)).length ≤ sizeLine ∧ ∀ p, H p = none → rIsiT X.K [x, .ref p] (upd H p (.tup (ts.map fun t => .ty (tyS t)))) Q) h fun ρ M H x dx rp qx f => ?_
  obtain ⟨u, e, f⟩ := f.ofO
  refine ⟨by rw [List.length_map]; exact sz_of hl, fun p hp => ?_⟩
  obtain ⟨rp2, x2⟩ := rp.val (o := .tup (ts.map fun t => .ty (tyS t))) hp
  refine ⟨x, p, ts.map fun t => .ty (tyS t), .type (tyS u), ts.map fun t => .type (tyS t), ts.any (subTy u), rfl, upd_same, ?_, tyx_rd rp2 (RD.ext x2 qx) e, kit_anyZ _ u ts g2, f _ _ _ rp2 x2 (.bl _)⟩
  exact paired_tys ts
/-! ### comprehensions -/
theorem z_comp {m : Bool} {el : E} {t : Tg} {it : Z.It} {cd : Oe} {own : List Nat} {ownL : List (Str × Nat)} {elt tg iter : Expr} {ifs : List Expr} {scope : Scope} (hc : X.calm = true) (hN : X.N.Nodup) (hi : PI X tg iter (zI X ca W C it))
    (ok : BlkOk X.N X.env.scope scope ownL) (ho : ownL.map (·.2) = own) (hsl : ∀ i ∈ t.slots, i ∈ own) (hp : plainX iter = true)
    (hg : ∀ (s : Shared) (H : Hp) (D : Addr) (cl : List (Str × Addr)) (fp : List Addr), PG (X.blk s H scope (compEnvC scope cl D X.env) fp) tg (zG X.K t))
    (ht : ∀ (s : Shared) (H : Hp) (D : Addr) (cl : List (Str × Addr)) (fp : List Addr), PTs (X.blk s H scope (compEnvC scope cl D X.env) fp) ifs (zC X ca W0 C cd))
    (he : ∀ (s : Shared) (H : Hp) (D : Addr) (cl : List (Str × Addr)) (fp : List Addr), PE (X.blk s H scope (compEnvC scope cl D X.env) fp) elt (zE X ca W0 C el)) :
    PE X (.ListComp elt [⟨tg, iter, ifs, 0⟩] scope pos) (zE X ca W C (.comp m el t it cd own)) := by
  subst ho
  exact pe_imp (pe_lc hc hN hi ok hg ht he (fold_plain hp)) (comp_core hsl)
end
section
variable {J : L2.It} {n : Nat} {G : Hp → Prop} {Y : Nat → Hp → V → Hp → Prop}
/-- a loop by its walk -/
theorem loop_it (w : Walk J n G Y) {S : Hp → (V → Hp → Prop) → Prop} {Qd : Hp → Prop} {H1 : Hp} (B : (Hp → Prop) → V → Hp → Prop) (Pv : Nat → Hp → Prop) (h0 : Pv 0 H1) (hG : ∀ i H, i ≤ n → Pv i H → G H)
    (hs : ∀ i x H H', i < n → Pv i H → Y i H x H' → B (Pv (i + 1)) x H') (hd : ∀ H, Pv n H → Qd H) :
    ∃ W : Nat → Nat → Hp → Prop, (∃ m, W 0 m H1) ∧ ∀ i m H, W i m H → (J.stop i H ∧ Qd H) ∨ (J.go i H ∧ ∃ Nx : Hp → Prop, (∀ H', Nx H' → ∃ m', m' < m ∧ W (i + 1) m' H') ∧ ∀ x H', J.yld i H x H' → B Nx x H') := by
  refine ⟨fun i m H => m + i = n ∧ Pv i H, ⟨n, rfl, h0⟩, ?_⟩
  rintro i m H ⟨e, p⟩
  have q := hG i H (by omega) p
  by_cases hlt : i < n
  · exact .inr ⟨w.goes i H hlt q, Pv (i + 1), fun H' p' => ⟨m - 1, by omega, by omega, p'⟩, fun x H' y => hs i x H H' hlt p (w.yields i H x H' hlt q y)⟩
  · have e : i = n := by omega
    subst e
    exact .inl ⟨w.stops H q, hd H p⟩
end
section
variable {X : Cx} {ca : String → Addr} {W : WX} {C : Calls}
theorem comp2_core {m : Bool} {el : E} {t t1 : Tg} {it it1 : Z.It} {c c1 : Oe} {own own1 : List Nat} (hsl : ∀ i ∈ t.slots, i ∈ own) (hsl1 : ∀ i ∈ t1.slots, i ∈ own1) (σ : L2.St) (H : Hp) (Q : VK)
    (h : rd X.K ca (rDD X.K) W (fun env M => (evIt C it env M).bind fun items M1 => if decide (items.length ≤ 1000) then (compGo2 t (fun env M => evC C c env M) (fun env M => evIt C it1 env M) t1 (fun env M => evC C c1 env M) (fun env M => evE C el env M) own1 (wipeE env own) items M1).bind fun ys M2 => newList m ys M2 else .fail) σ H Q) :
    tLc2 (zI X ca W C it) (zG X.K t) (zC X ca W0 C c) (zI X ca W0 C it1) (zG X.K t1) (zC X ca W0 C c1) (zE X ca W0 C el) own own1 σ H Q := by
  obtain ⟨ρ, env, M, rp, re, f⟩ := h
  refine ⟨ρ, env, M, rp, re, (f.bind (R1 := rIt X.K)).imp ?_⟩
  rintro J H1 ⟨ρ1, M1, items, rp1, x1, ⟨hz, G, Y, w, st⟩, f1⟩
  obtain ⟨hlen, f1⟩ := f1.ite
  have hlen := of_decide_eq_true hlen
  intro D hD
  let P : Nat → Hp → Prop := fun i H => ∃ ρ2 M2 accD accV, ρ2.hid = D :: ρ1.hid ∧ Ext ρ1 M1 H1 (ρ2.un ρ1.hid) M2 H ∧ Rep X.K ρ2 M2 H ∧ H D = some (.lst accV) ∧ RDs X.K H (Al ρ2 M2) ρ2 accD accV ∧ accV.length ≤ 1000 * i ∧
    Fi X.K ca (rDD X.K) W σ ρ1 M1 H1 ((compGo2 t (fun env M => evC C c env M) (fun env M => evIt C it1 env M) t1 (fun env M => evC C c1 env M) (fun env M => evE C el env M) own1 (wipeE env own) (items.drop i) M2).bind fun ys M3 => newList m (accD ++ ys) M3) Q
  have wk1 : ∀ {ρ2 : Pl} {M2 : Sto} {H2 : Hp}, ρ2.hid = D :: ρ1.hid → Ext ρ1 M1 H1 (ρ2.un ρ1.hid) M2 H2 → Wk ρ1 M1 H1 ρ2 M2 H2 := by
    intro ρ2 M2 H2 hh x
    refine ⟨fun i a h => x.at (ρ' := ρ2.un ρ1.hid) h, fun b o hb tb nb => ?_⟩
    obtain ⟨g1, g2⟩ := x.keep b o hb tb nb
    refine ⟨g1, fun z => ?_⟩
    rcases (al_un hh).mp z with z | z
    · rw [z, hD] at hb; cases hb
    · exact g2 z
  refine loop_it (S := fun _ _ => True) w (fun Nx x H' => zG X.K t x (L2.wipe σ own) H' fun σ2 H2 => L2.wipe σ2 own = L2.wipe σ own ∧ zC X ca W0 C c σ2 H2 fun b H3 =>
    if b = true then zI X ca W0 C it1 σ2 H3 fun J1 H4 => ∃ W1 : Nat → Nat → Hp → Prop, (∃ m, W1 0 m H4) ∧ ∀ j k H, W1 j k H →
      (J1.stop j H ∧ Nx H) ∨ (J1.go j H ∧ ∃ Nx1 : Hp → Prop, (∀ H', Nx1 H' → ∃ k', k' < k ∧ W1 (j + 1) k' H') ∧ ∀ x H', J1.yld j H x H' → zG X.K t1 x (L2.wipe σ2 own1) H' fun σ3 H5 => L2.wipe σ3 own1 = L2.wipe σ2 own1 ∧ zC X ca W0 C c1 σ3 H5 fun b H6 =>
        if b = true then zE X ca W0 C el σ3 H6 fun y H7 => ∃ acc, H7 D = some (.lst acc) ∧ acc.length < sizeLine ∧ Nx1 (upd H7 D (.lst (acc ++ [y]))) else Nx1 H6)
    else Nx H3) P ?_ ?_ ?_ ?_
  · refine ⟨⟨ρ1.l, D :: ρ1.hid⟩, M1, [], [], rfl, ext_atD (ρ2 := ⟨ρ1.l, D :: ρ1.hid⟩) rp1 hD .refl, ?_, upd_same, .nil, Nat.zero_le _, f1⟩
    have w1 : Wk ρ1 M1 H1 ⟨ρ1.l, D :: ρ1.hid⟩ M1 (upd H1 D (.lst [])) := wk1 (ρ2 := ⟨ρ1.l, D :: ρ1.hid⟩) rfl (ext_atD (ρ2 := ⟨ρ1.l, D :: ρ1.hid⟩) rp1 hD .refl)
    refine ⟨rp1.len, rp1.nd, fun i a u h1 h2 => ?_, fun b hb => ?_, rp1.tab.same (fun _ _ h => h) (fun q hq hn hb => ?_) fun b u hb hc => by rw [upd_ne (ne_of_none hb hD)]; exact hb⟩
    · obtain ⟨q, hq⟩ := rp1.there h1
      exact (rp1.obj i a u h1 h2).wk w1 (upd_ne (ne_of_none hq hD))
    · rcases List.mem_cons.mp hb with e | hb
      · subst e
        exact ⟨rp1.off hD, _, upd_same⟩
      · obtain ⟨g1, u, g2⟩ := rp1.hid b hb
        exact ⟨g1, u, by rw [upd_ne (ne_of_none g2 hD)]; exact g2⟩
    · rcases List.mem_cons.mp hb with e | hb
      · obtain ⟨ps, g⟩ := rp1.tab.at hq
        rw [e, hD] at g; cases g
      · exact hn hb
  · rintro i H2 hi ⟨ρ2, M2, accD, accV, hh, x2, rp2, hDv, qs, hl, f2⟩
    exact (st M1 ρ2 M2 H2 rfl (wk1 hh x2) rp2).1
  · rintro i x H2 H2' hi ⟨ρ2, M2, accD, accV, hh, x2, rp2, hDv, qs, hl, f2⟩ y
    have hgi : items[i]? = some items[i] := List.getElem?_eq_getElem hi
    obtain ⟨rp3, x3, qx⟩ := (st M1 ρ2 M2 H2 rfl (wk1 hh x2) rp2).2 i items[i] x H2' hgi y
    rw [List.drop_eq_getElem_cons hi] at f2
    unfold compGo2 at f2
    split at f2
    · exact f2.elim
    rename_i env1 he
    have re3 : RE X.K ρ2 M2 H2' (wipeE env own) (L2.wipe σ own) := (((re.ext x1).wk (wk1 hh x2)).ext x3).wipe own
    refine ⟨ρ2, wipeE env own, M2, items[i], env1, rp3, re3, qx, he, fun σ1 re1 hw => ⟨by rw [hw own hsl, wipe_wipe], ?_⟩⟩
    rw [bind_assoc] at f2
    obtain ⟨b, M3, hc, f3⟩ := calm_inv f2
    refine ⟨ρ2, env1, M2, rp3, re1, ?_⟩
    show Fi X.K ca rId W0 σ1 ρ2 M2 H2' (evC C c env1 M2) _
    rw [hc]
    intro ρ3 H3 b' rp4 x4 eb
    cases eb
    obtain ⟨hh3, x23⟩ := ext_un hh hD (ext_un hh hD x2 x3).2 x4
    have hD3 : H3 D = some (.lst accV) := by rw [x4.hk D (by rw [hh]; exact List.mem_cons_self), x3.hk D (by rw [hh]; exact List.mem_cons_self)]; exact hDv
    cases b with
    | false =>
      rw [if_neg (by decide)]
      rw [if_neg (by decide)] at f3
      exact ⟨ρ3, M3, accD, accV, hh3, x23, rp4, hD3, (qs.ext x3).ext x4, by omega, f3⟩
    | true =>
      rw [if_pos rfl]
      rw [if_pos rfl, bind_assoc] at f3
      obtain ⟨items1, M4, hy, f4⟩ := calm_inv f3
      refine ⟨ρ3, env1, M3, rp4, re1.ext x4, ?_⟩
      show Fi X.K ca (rIt X.K) W0 σ1 ρ3 M3 H3 (evIt C it1 env1 M3) _
      rw [hy]
      intro ρ4 H4 J1 rp5 x5 qy
      obtain ⟨hz1, G1, Y1, w1, st1⟩ := qy
      obtain ⟨hh4, x24⟩ := ext_un hh3 hD x23 x5
      have hD4 : H4 D = some (.lst accV) := by rw [x5.hk D (by rw [hh3]; exact List.mem_cons_self)]; exact hD3
      have re4 := (re1.ext x4).ext x5
      cases hq : decide (items1.length ≤ 1000) with
      | false => rw [hq] at f4; exact f4.elim
      | true =>
      rw [hq, if_pos rfl] at f4
      have hq := of_decide_eq_true hq
      rw [bind_assoc] at f4
      let P1 : Nat → Hp → Prop := fun j H => ∃ ρ5 M5 aD aV, ρ5.hid = D :: ρ1.hid ∧ Ext ρ1 M1 H1 (ρ5.un ρ1.hid) M5 H ∧ Wk ρ4 M4 H4 ρ5 M5 H ∧ Rep X.K ρ5 M5 H ∧ H D = some (.lst aV) ∧ RDs X.K H (Al ρ5 M5) ρ5 aD aV ∧ aV.length ≤ 1000 * i + j ∧
        Fi X.K ca (rDD X.K) W σ ρ1 M1 H1 ((compGo t1 (fun env M => evC C c1 env M) (fun env M => evE C el env M) (wipeE env1 own1) (items1.drop j) M5).bind fun ys M6 => ((compGo2 t (fun env M => evC C c env M) (fun env M => evIt C it1 env M) t1 (fun env M => evC C c1 env M) (fun env M => evE C el env M) own1 (wipeE env own) (items.drop (i + 1)) M6).bind fun zs M7 => Res.ok (ys ++ zs) M7).bind fun ys M8 => newList m (aD ++ ys) M8) Q
      refine loop_it (S := fun _ _ => True) w1 (fun Nx1 x H' => zG X.K t1 x (L2.wipe σ1 own1) H' fun σ3 H5 => L2.wipe σ3 own1 = L2.wipe σ1 own1 ∧ zC X ca W0 C c1 σ3 H5 fun b H6 =>
        if b = true then zE X ca W0 C el σ3 H6 fun y H7 => ∃ acc, H7 D = some (.lst acc) ∧ acc.length < sizeLine ∧ Nx1 (upd H7 D (.lst (acc ++ [y]))) else Nx1 H6) P1 ?_ ?_ ?_ ?_
      · exact ⟨ρ4, M4, accD, accV, hh4, x24, ⟨fun _ _ h => h, fun _ _ a _ b => ⟨a, b⟩⟩, rp5, hD4, ((qs.ext x3).ext x4).ext x5, by omega, f4⟩
      · rintro j H5 hj ⟨ρ5, M5, aD, aV, hh5, x25, k5, rp5, hD5, qs5, hl5, f5⟩
        exact (st1 M4 ρ5 M5 H5 rfl k5 rp5).1
      · rintro j x' H5 H5' hj ⟨ρ5, M5, aD, aV, hh5, x25, k5, rp5, hD5, qs5, hl5, f5⟩ y'
        have hgj : items1[j]? = some items1[j] := List.getElem?_eq_getElem hj
        obtain ⟨rp6, x6, qx6⟩ := (st1 M4 ρ5 M5 H5 rfl k5 rp5).2 j items1[j] x' H5' hgj y'
        rw [List.drop_eq_getElem_cons hj] at f5
        unfold compGo at f5
        split at f5
        · exact f5.elim
        rename_i env2 he2
        have re6 : RE X.K ρ5 M5 H5' (wipeE env1 own1) (L2.wipe σ1 own1) := ((re4.wk k5).ext x6).wipe own1
        refine ⟨ρ5, wipeE env1 own1, M5, items1[j], env2, rp6, re6, qx6, he2, fun σ3 re7 hw3 => ⟨by rw [hw3 own1 hsl1, wipe_wipe], ?_⟩⟩
        rw [bind_assoc] at f5
        obtain ⟨b, M6, hc6, f6⟩ := calm_inv f5
        refine ⟨ρ5, env2, M5, rp6, re7, ?_⟩
        show Fi X.K ca rId W0 σ3 ρ5 M5 H5' (evC C c1 env2 M5) _
        rw [hc6]
        intro ρ6 H6 b' rp7 x7 eb
        cases eb
        obtain ⟨hh6, x26⟩ := ext_un hh5 hD (ext_un hh5 hD x25 x6).2 x7
        have hD6 : H6 D = some (.lst aV) := by rw [x7.hk D (by rw [hh5]; exact List.mem_cons_self), x6.hk D (by rw [hh5]; exact List.mem_cons_self)]; exact hD5
        have k6 := (k5.trans x6.wk).trans x7.wk
        cases b with
        | false =>
          rw [if_neg (by decide)]
          rw [if_neg (by decide)] at f6
          exact ⟨ρ6, M6, aD, aV, hh6, x26, k6, rp7, hD6, (qs5.ext x6).ext x7, by omega, f6⟩
        | true =>
          rw [if_pos rfl]
          rw [if_pos rfl, bind_assoc] at f6
          obtain ⟨yd, M7, hy7, f7⟩ := calm_inv f6
          refine ⟨ρ6, env2, M6, rp7, re7.ext x7, ?_⟩
          show Fi X.K ca (rDD X.K) W0 σ3 ρ6 M6 H6 (evE C el env2 M6) _
          rw [hy7]
          intro ρ7 H7 yv rp8 x8 qy8
          obtain ⟨hh7, x27⟩ := ext_un hh6 hD x26 x8
          have hm7 : D ∈ ρ7.hid := by rw [hh7]; exact List.mem_cons_self
          have hD7 : H7 D = some (.lst aV) := by rw [x8.hk D (by rw [hh6]; exact List.mem_cons_self)]; exact hD6
          obtain ⟨rp9, w9⟩ := rep_atD (xs := aV ++ [yv]) hm7 rp8
          have hsl : aV.length < sizeLine := by rw [sizeLine_eq]; omega
          refine ⟨aV, hD7, hsl, ρ7, M7, aD ++ [yd], aV ++ [yv], hh7, ext_atD rp1 hD x27, (k6.trans x8.wk).trans w9, rp9, upd_same, ((((qs5.ext x6).ext x7).ext x8).append (.cons qy8 .nil)).wk w9, by rw [List.length_append]; show _ + 1 ≤ _; omega, ?_⟩
          rw [bind_assoc] at f7
          simp only [bind_ok, bind_assoc] at f7 ⊢
          simp only [List.append_assoc, List.singleton_append, List.cons_append, List.nil_append] at f7 ⊢
          exact f7
      · rintro H5 ⟨ρ5, M5, aD, aV, hh5, x25, k5, rp5, hD5, qs5, hl5, f5⟩
        rw [List.drop_length] at f5
        unfold compGo at f5
        simp only [bind_ok, bind_assoc, List.nil_append] at f5
        exact ⟨ρ5, M5, aD, aV, hh5, x25, rp5, hD5, qs5, by omega, f5⟩
  · rintro H2 ⟨ρ2, M2, accD, accV, hh, x2, rp2, hDv, qs, hl, f2⟩
    rw [List.drop_length] at f2
    unfold compGo2 at f2
    rw [bind_ok, List.append_nil] at f2
    obtain ⟨rp3, w3⟩ := rep_off hh rp1 hD rp2
    have x3 : Ext ρ1 M1 H1 (ρ2.un ρ1.hid) M2 (off H2 D) := by
      refine ⟨x2.pre, rfl, fun b hb => ?_, fun b o hb tb nb => ?_⟩
      · obtain ⟨_, u, hu⟩ := rp1.hid b hb
        unfold off
        rw [if_neg (ne_of_none hu hD)]; exact x2.hk b hb
      · unfold off
        rw [if_neg (ne_of_none hb hD)]; exact x2.keep b o hb tb nb
    have e := newList_rd (xs := accD) (vs := accV) (m := m) rp3 (qs.wk w3) (by rw [sizeLine_eq]; omega) (f2.go x3) D (by unfold off; rw [if_pos rfl])
    rw [off_upd hDv] at e
    exact e
end
section
variable {X : Cx} {ca : String → Addr} {W : WX} {C : Calls}
theorem z_comp2 {m : Bool} {el : E} {t t1 : Tg} {it it1 : Z.It} {cd c1 : Oe} {own own1 : List Nat} {ownL : List (Str × Nat)} {elt tg iter tg1 iter1 : Expr} {ifs ifs1 : List Expr} {scope : Scope} {pos : Pos} (hc : X.calm = true) (hN : X.N.Nodup) (hi : PI X tg iter (zI X ca W C it))
    (ok : BlkOk X.N X.env.scope scope ownL) (ho : ownL.map (·.2) = own) (hsl : ∀ i ∈ t.slots, i ∈ own) (hsl1 : ∀ i ∈ t1.slots, i ∈ own1) (hv : ∀ i ∈ own1, i ∈ own) (hp : plainX iter = true) (hp1 : plainX iter1 = true)
    (hg : ∀ (s : Shared) (H : Hp) (D : Addr) (cl : List (Str × Addr)) (fp : List Addr), PG (X.blk s H scope (compEnvC scope cl D X.env) fp) tg (zG X.K t))
    (ht : ∀ (s : Shared) (H : Hp) (D : Addr) (cl : List (Str × Addr)) (fp : List Addr), PTs (X.blk s H scope (compEnvC scope cl D X.env) fp) ifs (zC X ca W0 C cd))
    (hi1 : ∀ (s : Shared) (H : Hp) (D : Addr) (cl : List (Str × Addr)) (fp : List Addr), PI (X.blk s H scope (compEnvC scope cl D X.env) fp) tg1 iter1 (zI X ca W0 C it1))
    (hg1 : ∀ (s : Shared) (H : Hp) (D : Addr) (cl : List (Str × Addr)) (fp : List Addr), PG (X.blk s H scope (compEnvC scope cl D X.env) fp) tg1 (zG X.K t1))
    (ht1 : ∀ (s : Shared) (H : Hp) (D : Addr) (cl : List (Str × Addr)) (fp : List Addr), PTs (X.blk s H scope (compEnvC scope cl D X.env) fp) ifs1 (zC X ca W0 C c1))
    (he : ∀ (s : Shared) (H : Hp) (D : Addr) (cl : List (Str × Addr)) (fp : List Addr), PE (X.blk s H scope (compEnvC scope cl D X.env) fp) elt (zE X ca W0 C el)) :
    PE X (.ListComp elt [⟨tg, iter, ifs, 0⟩, ⟨tg1, iter1, ifs1, 0⟩] scope pos) (zE X ca W C (.comp2 m el t it cd t1 it1 c1 own own1)) := by
  subst ho
  exact pe_imp (pe_lc2 hc hN hi ok hv hg ht hi1 hg1 ht1 he (fold_plain hp) fun _ => fold_plain hp1) (comp2_core hsl hsl1)
end
end Z


/-! Zr: errors of the program's own classes are made: __init__ says super().__init__(at), self.at = at. -/
namespace Z
open PySem L2 PySem.Spec PyProof.Rows

/-- the text of such an __init__ -/
def initB : List Stmt → Bool
  | [.Expr (.Call (.Attribute (.Call (.Name s _) [] [] _) i ap) [.Name a _] [] p) _, .Assign [.Attribute (.Name b _) f _] (.Name c _) _] =>
    decide (s = "super") && decide (i = "__init__") && decide (a = "at") && decide (b = "self") && decide (f = "at") && decide (c = "at") && (ap.endLine == p.line)
  | _ => false
def initP : Arguments → Bool
  | ⟨[], [a, b], none, [], _, none, _⟩ => decide (a.arg = "self") && decide (b.arg = "at")
  | _ => false
def initSc (sc : Scope) : Bool := (match sc.kind with
    | .function => true
    | _ => false) && !sc.isCoroutine && !sc.isGenerator && decide (sc.names.lookup ("super" : Str) = some NameKind.globalImplicit) && decide (sc.names.lookup ("__class__" : Str) = some NameKind.free) && decide (sc.names.lookup ("self" : Str) = some NameKind.local) && decide (sc.names.lookup ("at" : Str) = some NameKind.local) &&
    sc.names.all fun y => !decide (y.2 = .cell) && (!decide (y.2 = .free) || decide (y.1 = "__class__"))
/-- what the module says of such a class: C its place, its name c -/
structure XcK (P : Program) (K : PySem.W.Frag) (C : Addr) : Prop where
  oex : OexC K C
  xf : XfC K C
  no : PySem.W.findIn K (.ref C) "at" = some none
  init : ∃ (fI cda cc : Addr) (qual : Str) (params : Arguments) (body : List Stmt) (scope : Scope) (kV doc pm ct oc : Value) (an od : Option Addr) (osl : Array (Option Value)),
    PySem.W.findIn K (.ref C) "__init__" = some (some (.ref fI)) ∧ PySem.W.typeIn K (.ref fI) = some (.type "function") ∧
    K.lookup fI = some ⟨oc, od, .func (PySem.W.ksFn "__init__" qual params body scope .none kV doc pm an (.ref cda) ct cc), osl⟩ ∧ PySem.W.codeIn K (.ref cda) qual = true ∧ initB body = true ∧ initP params = true ∧ initSc scope = true ∧
    (∃ (cl : Value) (dd : Option Addr) (vs : Array Value) (sl : Array (Option Value)) (file : Str) (tf : Tok), K.lookup cda = some ⟨cl, dd, .fields vs, sl⟩ ∧ vs[2]? = some (.str file tf) ∧ ((P.main.file : Str) == file) = true) ∧
    (∃ (cl : Value) (dd : Option Addr) (sl : Array (Option Value)), K.lookup cc = some ⟨cl, dd, .cell (some (.ref C)), sl⟩)
  sup : PySem.W.ks_superIn K C C "__init__" = some (some (.builtin "ValueError.__init__"))
  self : PySem.W.mroIn K C (.ref C) = some true
  ve : PySem.W.subIn K (.ref C) (.type "ValueError") = some true
  any : PySem.W.nsIn K cStatics "thirdparty.any" = some none
  top : (P.main.scope.names.lookup ("super" : Str)).isSome = false
/-- the context of such a body -/
def iCx (CX : CXT) (P : Program) (w : World) (K : PySem.W.Frag) (mg : Str → Option Value) (base : Heap) (qual : Str) (scope : Scope) (f : Addr) (cd : Value) (cc : Addr) (A : Around) (outer : List Env) (s : Shared) (H : Hp) (E : XK) : Cx where
  prog := P
  w := w
  K := K
  mg := mg
  base := base
  A := A.deeper (PySem.W.ksEnv qual scope s.heap.objs.size f cd cc)
  N := ["self", "at"]
  s_0 := s
  H_0 := H
  env := PySem.W.ksEnv qual scope s.heap.objs.size f cd cc
  outer := outer
  stack := PySem.W.ksEnv qual scope s.heap.objs.size f cd cc :: outer
  ex := []
  calm := true
  fn := fun _ => false
  pn := []
  xe := fun e s' => wpAny (model P w) (A.deeper (PySem.W.ksEnv qual scope s.heap.objs.size f cd cc)) (leaving (PySem.W.ksEnv qual scope s.heap.objs.size f cd cc) e) (fun _ s'' => CX outer H s E e s'') (fun e' s'' => CX outer H s E e' s'') s'
theorem look1 {x y : Str} {c d : Addr} (h : ([(x, c)] : List (Str × Addr)).lookup y = some d) : y = x ∧ d = c := by
  have e : (match y == x with
    | true => some c
    | false => none) = some d := h
  split at e
  · rename_i h1
    exact ⟨eq_of_beq h1, (Option.some.inj e).symm⟩
  · cases e
section
variable {CX : CXT} {P : Program} {w : World} {K : PySem.W.Frag} {mg : Str → Option Value} {base : Heap} {qual : Str} {scope : Scope} {f C cc : Addr} {cd : Value} {A : Around} {outer : List Env} {s : Shared} {H : Hp} {E : XK} {h1 : Heap} {tk : Nat} {a b : Value} {x y : V}
theorem init_inv (hs : initSc scope = true) (hd : A.handled = none) (e0 : Env0 P w K mg base A outer s H) {oc : Obj} {vc : Value} (hcc : base.get? cc = some oc) (hcd : oc.data = .cell (some vc)) (rx : RelV x a) (ry : RelV y b)
    (hn : h1.Ns s.heap.objs.size fun z => ([("self", a), ("at", b)] : List (Str × Value)).reverse.lookup z) (kp : ∀ b o, s.heap.get? b = some o → h1.get? b = some o) :
    Inv (iCx CX P w K mg base qual scope f cd cc A outer s H E) [] [some x, some y] H { s with heap := h1, toks := tk } := by
  unfold initSc at hs
  simp only [Bool.and_eq_true, Bool.not_eq_true', decide_eq_true_eq, List.all_eq_true, Bool.or_eq_true, decide_eq_false_iff_not] at hs
  obtain ⟨⟨⟨⟨⟨⟨⟨k1, k2⟩, k3⟩, k4⟩, k5⟩, k6⟩, k7⟩, k8⟩ := hs
  have hk : scope.kind = .function := by split at k1 <;> first | assumption | cases k1
  have noA : ∀ b : Addr, b ∉ (iCx CX P w K mg base qual scope f cd cc A outer s H E).ex := fun b z => absurd (show b ∈ ([] : List Addr) from z) (by simp)
  have hb := e0.bs cc oc hcc
  have cellAt : ∀ z c, ([(("__class__" : Str), cc)] : List (Str × Addr)).lookup z = some c → c = cc := fun z c e => (look1 e).2
  refine ⟨⟨e0.mod, hk, rfl, rfl, Nat.le_refl _, fun u z c e1 e2 => ?_, fun z hz => ?_, fun z c h _ => ?_, fun _ => hd, Around.frames_deeper e0.frames, .inr ⟨rfl, rfl⟩, fun b z => absurd z (noA b), e0.bs, e0.bsz, fun b _ _ => noA b, fun b z => absurd z (noA b), e0.funs, e0.frf⟩,
    rfl, e0.bare, Un.kept kp, ⟨_, hn, fun i z v e1 e2 e3 => ?_⟩, fun z c e => ?_, e0.hok.fresh (Nat.le_refl _), fun z c e => ?_, fun q hq => absurd (show q ∈ ([] : List (Addr × Obj)) ++ [] from hq) (by simp), e0.hok.kept kp, rfl⟩
  · exact (look1 e1).1.trans (look1 e2).1.symm
  · have hz : scope.names.lookup z = some .cell ∨ scope.names.lookup z = some .free := hz
    rcases hz with hz | hz
    · exact absurd rfl (k8 _ (PySem.mem_of_lookup hz)).1
    · rcases (k8 _ (PySem.mem_of_lookup hz)).2 with q | q
      · exact absurd rfl q
      · have q : z = "__class__" := q
        subst q
        exact ⟨cc, by rfl⟩
  · have h : false = true := h
    cases h
  · match i, e1, e2 with
    | 0, e1, e2 =>
      cases e1; cases e2
      exact ⟨a, rx, .inl ⟨k6, by rfl⟩⟩
    | 1, e1, e2 =>
      cases e1; cases e2
      exact ⟨b, ry, .inl ⟨k7, by rfl⟩⟩
    | n + 2, e1, e2 => simp [iCx] at e1
  · rw [cellAt z c e]
    exact ⟨_, oc, kp _ _ hb.1, hcd⟩
  · rw [cellAt z c e]
    exact hb.2

/-- the frame's body: super().__init__(at) -/
theorem init_super {pins : List (Addr × Obj)} {fI cda x : Addr} {params : Arguments} {body body' : List Stmt} {kV doc pm ct oc : Value} {an od : Option Addr} {osl : Array (Option Value)} {Q : Flow → Shared → Prop} {s1 : Shared} {y : V} {st : Stmt} {p0 p1 p2 p3 pos pos2 : Pos}
    (X : XcK P K C) (hp : initP params = true) (hs : initSc scope = true) (I : Inv (iCx CX P w K mg base qual scope fI (.ref cda) cc A outer s H E) [] [some (.ref x), some y] H s1) (hx : H x = some (exo x C none))
    (lk : K.lookup fI = some ⟨oc, od, .func (PySem.W.ksFn "__init__" qual params body' scope .none kV doc pm an (.ref cda) ct cc), osl⟩)
    (hcode : ∃ (cl : Value) (dd : Option Addr) (vs : Array Value) (sl : Array (Option Value)) (file : Str) (tf : Tok), K.lookup cda = some ⟨cl, dd, .fields vs, sl⟩ ∧ vs[2]? = some (.str file tf) ∧ ((P.main.file : Str) == file) = true)
    (hcell : ∃ (cl : Value) (dd : Option Addr) (sl : Array (Option Value)), K.lookup cc = some ⟨cl, dd, .cell (some (.ref C)), sl⟩)
    (hm : mg "super" = none) (e0funs : s.heap.FunFrames base outer) (hl : (p2.endLine == p3.line) = true)
    (hq : ∀ s2, Inv (iCx CX P w K mg base qual scope fI (.ref cda) cc A outer s H E) [] [some (.ref x), some y] H s2 → Q .next s2) :
    _root_.PySem.wpAt (model P w) (A.deeper (PySem.W.ksEnv qual scope s.heap.objs.size fI (.ref cda) cc)) (.func body (PySem.W.ksEnv qual scope s.heap.objs.size fI (.ref cda) cc))
      (exec (.Expr (.Call (.Attribute (.Call (.Name "super" p0) [] [] p1) "__init__" p2) [.Name "at" pos2] [] p3) pos) (PySem.W.ksEnv qual scope s.heap.objs.size fI (.ref cda) cc)) Q (iCx CX P w K mg base qual scope fI (.ref cda) cc A outer s H E).xe s1 := by
  have hs' := hs
  unfold initSc at hs
  simp only [Bool.and_eq_true, Bool.not_eq_true', decide_eq_true_eq, List.all_eq_true, Bool.or_eq_true, decide_eq_false_iff_not] at hs
  obtain ⟨⟨⟨⟨⟨⟨⟨k1, k2⟩, k3⟩, k4⟩, k5⟩, k6⟩, k7⟩, k8⟩ := hs
  have hk : scope.kind = .function := by split at k1 <;> first | assumption | cases k1
  obtain ⟨ca1, ca2, vs, ca3, file, tf, lc, hv, hfile⟩ := hcode
  obtain ⟨ce1, ce2, ce3, lce⟩ := hcell
  obtain ⟨a0, b0, ep1, ep2, ep3⟩ : ∃ a0 b0 : Arg, (params.posonlyargs ++ params.args).head? = some a0 ∧ a0.arg = "self" ∧ b0.arg = "at" := by
    unfold initP at hp
    split at hp
    · rename_i a b _ _
      simp only [Bool.and_eq_true, decide_eq_true_eq] at hp
      exact ⟨a, b, rfl, hp.1, hp.2⟩
    · cases hp
  obtain ⟨nm, q, N, bs, bm, sn, sub, ab, col, dd, c0, c1, c2, c3, c5, hC, hbm⟩ := X.oex.cls
  have hcl : PySem.W.clsIn K C = some { name := nm, bases := bs, mro := .ref C :: bm, ns := N, qualname := q, hasDict := true, slotNames := sn, subclasses := sub, abstract := ab, collection := col, hasDel := false } := by unfold PySem.W.clsIn; rw [hC] <;> rfl
  obtain ⟨m, hns, hlook⟩ := id I.loc
  have look : ∀ (i : Nat) (z : Str) (v : V), (["self", "at"] : List Str)[i]? = some z → ([some (.ref x), some y] : L2.St)[i]? = some (some v) → scope.names.lookup z = some .local → ∃ u, RelV v u ∧ m z = some u := by
    intro i z v e1 e2 e3
    obtain ⟨u, r, q⟩ := hlook i z v e1 e2 (.inl e3)
    rcases q with ⟨_, e⟩ | ⟨k | k, _⟩
    · exact ⟨u, r, e⟩
    · have k : scope.names.lookup z = some .cell := k
      rw [e3] at k; cases k
    · have k : scope.names.lookup z = some .free := k
      rw [e3] at k; cases k
  obtain ⟨us, rs, ms⟩ := look 0 "self" (.ref x) rfl rfl k6
  obtain rfl : us = Value.ref x := rs
  obtain ⟨t1, ho⟩ := exo_at I.hok hx
  have KX : K.In s1.heap := I.kIn
  obtain ⟨mb, hb1, hb2⟩ := I.mod.blt
  refine PySem.ks_wpAt_Expr_any (PySem.ks_wpAt_MethodCall (pl := L2.plainOf (.Call (.Name "super" p0) [] [] p1) (PySem.W.ksEnv qual scope s.heap.objs.size fI (.ref cda) cc)) ?_ ?_) ?_ ?_
  rotate_left
  rotate_left
  · exact I.quiet
  · rfl
  rotate_left
  · show (do
      let ov ← attributeBase (.Call (.Name "super" p0) [] [] p1) "__init__" _ (eval (.Call (.Name "super" p0) [] [] p1) _)
      standAt p2.atName
      methodCall (.Call (.Name "super" p0) [] [] p1) "__init__" p2 p3 _ ov _ _ _) = _
    congr 1
    funext ov
    congr 1
    funext _
    exact mcall_line rfl hl
  have hee : ∀ g : Shared, g.heap = s1.heap → g.os = s1.os → g.gens = s1.gens → True := fun _ _ _ _ => trivial
  obtain ⟨hp1, g, d, tk, os⟩ := s1
  refine PySem.ks_wpAt_super_base (env := PySem.W.ksEnv qual scope s.heap.objs.size fI (.ref cda) cc) k4 k5 rfl rfl (KX _ _ lk) rfl ep1 rfl (KX _ _ lc) rfl hv hfile X.top ?_
  refine PySem.W.ks_loadName_global hk k4 (Calls.loadGlobal_builtin (env := PySem.W.ksEnv qual scope s.heap.objs.size fI (.ref cda) cc) (I.mod.glob.keeps I.bk) hm (hb1.keeps I.bk) ((hb2 _ (by decide)).trans (by decide +kernel)) ⟨rfl, ?_⟩)
  refine wpAny_loadName_free hk k5 rfl ⟨_, KX _ _ lce, rfl⟩ ?_
  rw [ep2]
  refine wpAny_loadName_local hk k6 hns ms ?_
  refine PySem.ks_wpAny_isType_cls (KX _ _ hC) rfl ⟨rfl, ?_⟩
  refine PySem.ks_wpAny_call_super (KX _ _ hC) rfl ho rfl (fun c e => by cases e) (PySem.W.looks_mroIn KX X.self) (fun h2 e2 kp2 => ?_)
  have I2 : Inv (iCx CX P w K mg base qual scope fI (.ref cda) cc A outer s H E) [] [some (.ref x), some y] H ⟨h2, g, d, tk, os⟩ := I.kept kp2
  have IA : PySem.W.InstAt h2 x ({ cls := .ref C, dict := none, data := .fields #[.ref t1, .none, .none, .none, .bool false, .none] } : Obj) C none := ⟨kp2 _ _ ho, rfl, rfl, trivial⟩
  have KX2 : K.In h2 := I2.kIn
  have hm2 := X.sup
  unfold PySem.W.ks_superIn at hm2
  rw [hcl] at hm2
  refine PySem.W.kxs_getMethod PySem.W.kxs_ValueError e2 (PySem.W.looks_opaque KX2 X.any) (l₀ := .ref C :: bm) (fun A Q E s k q => wpAny_bind ((PySem.W.looks_clsIn KX2 hcl) A _ E s k (wpAny_pure q))) rfl KX2 hm2 (IA.type.andThen (PySem.W.looks_subIn KX2 X.ve)) (PySem.W.ks_ne KX2 IA hcl) (by decide) ?_
  have I3 : Inv (iCx CX P w K mg base qual scope fI (.ref cda) cc A outer s H E) [] [some (.ref x), some y] H ⟨h2.push (PySem.W.kxs_mw "ValueError.__init__" x), g, d, tk + 1, os⟩ := I2.kept fun b o e => Heap.get?_push_of_some _ e
  have hmw : (h2.push (PySem.W.kxs_mw "ValueError.__init__" x)).get? h2.objs.size = some (PySem.W.kxs_mw "ValueError.__init__" x) := Heap.get?_push_at rfl rfl
  show wpAny _ _ (callWith p3 (Value.ref h2.objs.size) [] (backTo p3 (starEach [.Name "at" pos2] _)) []) _ _ _
  have hfree : H h2.objs.size = none := I2.hok.fresh (Nat.le_refl _)
  have nofr : h2.objs.size ∉ frs outer := fun hm => by
    obtain ⟨_, o, ho2, _⟩ := e0funs.mem hm
    have h3 := I.base.there _ o ho2 (by show h2.objs.size ∉ ([] : List Addr); simp)
    obtain ⟨o', h3⟩ := h3
    exact absurd (Heap.lt_size (kp2 _ _ h3)) (Nat.lt_irrefl _)
  have I3p : Inv (iCx CX P w K mg base qual scope fI (.ref cda) cc A outer s H E) [(h2.objs.size, PySem.W.kxs_mw "ValueError.__init__" x)] [some (.ref x), some y] H ⟨h2.push (PySem.W.kxs_mw "ValueError.__init__" x), g, d, tk + 1, os⟩ := I3.pins_of fun p hp => by
    cases List.mem_singleton.mp hp
    refine ⟨hmw, hfree, fun e => ?_, nofr, fun v e => by cases e⟩
    have h4 := I2.lt
    have e : h2.objs.size = (iCx CX P w K mg base qual scope fI (.ref cda) cc A outer s H E).env.locals := e
    rw [← e] at h4
    exact absurd h4 (Nat.lt_irrefl _)
  refine PySem.W.kxs_callWith (i := "ValueError.__init__") (x := x) rfl (Calls.evalArgs_plain (thn ((pa_cons (pe_var (X := iCx CX P w K mg base qual scope fI (.ref cda) cc A outer s H E) (i := 1) rfl (.inl k7)) pa_nil).run p3 [(h2.objs.size, PySem.W.kxs_mw "ValueError.__init__" x)] _ _ H (fun vs H2 => vs.length = 1 ∧ H2 = H) I3p ⟨y, rfl, rfl, rfl⟩) fun us s3 ⟨vs, H3, I4, r4, q4⟩ => ?_))
  obtain ⟨q4, rfl⟩ := q4
  have hu := (I4.pin _ (List.mem_append_right _ List.mem_cons_self)).1
  refine ⟨hu, ?_⟩
  have hz : us.length ≤ sizeLine := by rw [← r4.length, q4, sizeLine_eq]; omega
  obtain ⟨t2, ho4⟩ := exo_at I4.hok hx
  have hC4 := I4.kIn _ _ hC
  have I5 : Inv (iCx CX P w K mg base qual scope fI (.ref cda) cc A outer s H3 E) [] [some (.ref x), some y] H3 s3 := I4.pins_of fun p hp => by cases hp
  obtain ⟨hh, g3, d3, tk3, os3⟩ := s3
  refine wpAny_call (codeAny_of_tree ?_)
  show wpAny _ (Around.in1 _) (callAny (.ref h2.objs.size) ⟨us, []⟩) _ _ _
  simp only [callAny]
  refine wpAny_bind (wpAny_load hu ?_)
  simp only [PySem.W.kxs_mw, show (Value.type "method-wrapper" == Value.type "method" || Value.type "method-wrapper" == Value.type "builtin_function_or_method" || Value.type "method-wrapper" == Value.type "method-wrapper") = true by decide, if_true]
  refine PySem.W.KFB.if_so (by decide) (wpAny_bind (ESX.check_bound PySem.F.excBase_ValueError hC4 ho4 rfl (wpAny_bind (wpAny_pure (wpAny_pure ?_)))))
  refine ⟨plainId_quiet PySem.F.excBase_ValueError.init.plain _, codeAny_builtin PySem.F.excBase_ValueError.initEntry ?_⟩
  rw [Around.under_plainId PySem.F.excBase_ValueError.init.plain _]
  refine PySem.W.exc_init_tree ho4 hz fun h5 k5' e5 _ => ?_
  have J := I5.write (t' := tk3) (x := x) (e := x) (o := exo x C none) (by rw [hx]; exact True.intro) (.inl rfl) k5' ⟨_, e5⟩ (exo_ok e5)
  have eu : upd H3 x (exo x C none) = H3 := by
    funext b
    by_cases hb : b = x
    · rw [hb, upd_same, hx]
    · rw [upd_ne hb]
  rw [eu] at J
  exact hq _ J
/-- what such an __init__ promises -/
def spI (C : Addr) : Sp := fun vs H Q _ => ∃ (a : Addr) (v : V), vs = [.ref a, v] ∧ H a = some (exo a C none) ∧ ∀ dx, H dx = none → dx ≠ a → Q .non (upd (upd H dx (exd dx [(("at" : Str), v)])) a (exo a C (some dx)))
theorem initP_bind {params : Arguments} (hp : initP params = true) {body : List Stmt} {kV doc pm cdv ct : Value} {an : Option Addr} {x y : Value} : bindArgs (PySem.W.ksFn "__init__" qual params body scope .none kV doc pm an cdv ct cc) ⟨[x, y], []⟩ = pure [(("self" : Str), x), (("at" : Str), y)] := by
  unfold initP at hp
  split at hp
  · rename_i a b _ _
    simp only [Bool.and_eq_true, decide_eq_true_eq] at hp
    obtain ⟨n1, n2, n3⟩ := a
    obtain ⟨m1, m2, m3⟩ := b
    obtain ⟨h1, h2⟩ := hp
    have h1 : n1 = "self" := h1
    have h2 : m1 = "at" := h2
    subst h1 h2
    rfl
  · cases hp
theorem init_ok {C : Addr} (X : XcK P K C) (hm : mg "super" = none) : ∃ (fI : Addr) (fd : FuncData), PySem.W.findIn K (.ref C) "__init__" = some (some (.ref fI)) ∧ PySem.W.typeIn K (.ref fI) = some (.type "function") ∧
    FnOk P w K mg base CX 1 fI fd ["self", "at"] (spI C) ∧ L2.Binds K fd ["self", "at"] [] := by
  obtain ⟨fI, cda, cc, qual, params, body, scope, kV, doc, pm, ct, oc, an, od, osl, h1, h2, lk, hcd, hb, hp, hs, hcode, hcell⟩ := X.init
  refine ⟨fI, PySem.W.ksFn "__init__" qual params body scope .none kV doc pm an (.ref cda) ct cc, h1, h2, ⟨fun vs H Q E ⟨a, v, e, _⟩ => by rw [e]; rfl, fun A outer s H args us vs Q E hr e0 hbd r hsp => ?_⟩, fun s us hK hl => ?_⟩
  · obtain ⟨a, v, rfl, ea, hq⟩ := hsp
    have KX : K.In s.heap := e0.mod.kin.keeps fun b o e => (e0.bs b o e).1
    have lim : s.heap.NoLimit := e0.mod.nolimit.keeps fun b o e => (e0.bs b o e).1
    cases r with
    | @cons _ u0 _ ur ra r =>
    cases r with
    | @cons _ u1 _ ur rb r =>
    cases r
    obtain rfl : u0 = Value.ref a := ra
    have hs0 := hs
    unfold initSc at hs
    simp only [Bool.and_eq_true, Bool.not_eq_true', decide_eq_true_eq, List.all_eq_true, Bool.or_eq_true, decide_eq_false_iff_not] at hs
    obtain ⟨⟨⟨⟨⟨⟨⟨k1, k2⟩, k3⟩, k4⟩, k5⟩, k6⟩, k7⟩, k8⟩ := hs
    have hk : scope.kind = .function := by split at k1 <;> first | assumption | cases k1
    refine PySem.ks_codeAny_call_defAt hr.depth (KX _ _ lk) rfl lim (PySem.W.codeRec_of KX hcd) rfl hbd (fun y hy => (k8 y hy).1) (fun y hy => ?_) (fun h₀ hns hkp => ?_) k2 k3 hk
    · have hy : y ∈ [(("self" : Str), Value.ref a), (("at" : Str), u1)] := hy
      rcases List.mem_cons.mp hy with e | hy
      · rw [e]; exact k6
      · rw [List.mem_singleton.mp hy]; exact k7
    · obtain ⟨ce1, ce2, ce3, lce⟩ := id hcell
      have I := init_inv (CX := CX) (P := P) (w := w) (K := K) (mg := mg) (base := base) (qual := qual) (scope := scope) (f := fI) (cc := cc) (cd := .ref cda) (A := A) (outer := outer) (s := s) (H := H) (E := E) (h1 := h₀) (tk := s.toks + [(("self" : Str), Value.ref a), (("at" : Str), u1)].length) (a := .ref a) (b := u1) (x := .ref a) (y := v)
        hs0 hr.hd e0 (e0.mod.kin _ _ lce) rfl rfl rb hns hkp
      unfold initB at hb
      split at hb <;> try (cases hb; done)
      rename_i s' p0 p1 i ap a' pa p pp b' pb f' pf c' pc pq
      simp only [Bool.and_eq_true, decide_eq_true_eq] at hb
      obtain ⟨⟨⟨⟨⟨⟨g1, g2⟩, g3⟩, g4⟩, g5⟩, g6⟩, g7⟩ := hb
      subst g1 g2 g3 g4 g5 g6
      refine PySem.ks_wpAt_execs_cons ?_
      refine init_super (st := .Pass p) (pins := []) X hp hs0 I ea lk hcode hcell hm e0.funs g7 fun s2 I2 => ?_
      refine wpAt_of_wpAny ?_
      have rule := pss_one (ps_ost (X := iCx CX P w K mg base qual scope fI (.ref cda) cc A outer s H E) (p' := pf) (pos := pq) (f := "at") (pe_var (i := 0) (pos := pb) (x := "self") rfl (.inl k6)) (pe_var (i := 1) (pos := pc) (x := "at") rfl (.inl k7)))
      refine wpAny_mono (rule.run [] s2 _ H { nx := fun _ H' => Q .non H', rt := Q } I2 ⟨v, rfl, .ref a, rfl, a, C, rfl, X.oex, X.no, .inl ⟨ea, fun dx h1 h2 => hq dx h1 h2⟩⟩) (fun fl s' hs' => ?_) fun e s' z => z
      cases fl with
      | next =>
        obtain ⟨σ', H', J, q⟩ := hs'
        exact ⟨.non, H', J.os, J.bare, J.base, J.hok, rfl, q⟩
      | ret u =>
        obtain ⟨v', σ', H', J, rv, q⟩ := hs'
        exact ⟨v', H', J.os, J.bare, J.base, J.hok, rv, q⟩
      | brk =>
        obtain ⟨_, _, _, q⟩ := hs'
        exact q.elim
      | cont =>
        obtain ⟨_, _, _, q⟩ := hs'
        exact q.elim
  · match us, hl with
    | [x, y], _ => exact .of_eq (initP_bind hp)
end
section
variable {X : Cx} {ca : String → Addr} {W : WX} {C : Calls} {e : E} {pe : Expr} {x : Str} {p p1 pos : Pos} {c : String}
theorem z_mk {Cx_ : Addr} (T : XcK X.prog X.K Cx_) (hsu : X.mg "super" = none) (hr : Room 2 X.A) (hg : Gl X x) (hm : X.mg x = some (.ref Cx_)) (hdb : (x == ("__debug__" : Str)) = false) (hp : plainX pe = true) (he : PE X pe (zE X ca W C e)) :
    PMk X (.Call (.Name x p) [pe] [] p1) (tMkO Cx_ (spI Cx_) [] (zEs X ca W C (.cons e .nil))) := by
  obtain ⟨fI, fd, h1, h2, F, hb⟩ := init_ok (CX := L2.CX X.prog X.w) (w := X.w) (base := X.base) T hsu
  have hs := starEach_plain (es := []) (env := X.env) hp
  exact pmk_oex T.oex h1 h2 F hr hb .nil (fun pins σ H s e s' I hx => by
    obtain ⟨_, _, _, _, _, _, _, _, _, _, _, _, z⟩ := hx
    exact z.elim) hg hm (za_cons (es := .nil) hp he za_nil) hdb hs rfl
theorem upd_exc {H : Hp} {a dx Cx_ : Addr} {fs : List (Str × V)} (ha : H a = none) (hne : dx ≠ a) : upd (del (upd (upd (upd H a (exo a Cx_ none)) dx (exd dx fs)) a (exo a Cx_ (some dx))) a) dx (.xd fs) = upd H dx (.xd fs) := by
  funext b
  by_cases h1 : b = dx
  · subst h1; rw [upd_same, upd_same]
  · rw [upd_ne h1, upd_ne h1]
    by_cases h2 : b = a
    · subst h2; rw [del_same, ha]
    · rw [del_ne h2, upd_ne h2, upd_ne h1, upd_ne h2]
end
end Z


/-! Zt: try with several clauses that name the error; a lambda handed to a def that hears of errors. -/
namespace Z
open PySem L2 PySem.Spec PyProof.Rows

/-- what a clause does: at the error's place, by its class, its dict -/
abbrev Cl := Addr → Value → Option Addr → TS
/-- behind a clause its name is gone -/
def Ends.off (D : Ends) (i : Nat) : Ends := { nx := fun τ G => D.nx (τ.set i none) G, rt := D.rt, bk := fun τ G => D.bk (τ.set i none) G, ct := fun τ G => D.ct (τ.set i none) G }
/-- what clauses with a name (slot i) wish for, one behind the other -/
def wAll (K : PySem.W.Frag) (i : Nat) (Wo : WX) (D : Ends) : List (Value × Cl) → WX
  | [] => Wo
  | (v, cl) :: l => fun k d τ G => ∃ yes, PySem.W.exmOne K k v = some yes ∧ (yes = true → ∀ a, G a = none → cl a k d (Ends.off D i) (τ.set i (some (.ref a))) G) ∧ (yes = false → wAll K i Wo D l k d τ G)
inductive ClsOk (X : Cx) (n : Str) : List ExceptHandler → List (Value × Cl) → Prop
  | nil : ClsOk X n [] []
  | cons {y : Str} {v : Value} {cl : Cl} {st : Stmt} {su : List Stmt} {q1 q2 : Pos} {hl : List ExceptHandler} {l : List (Value × Cl)} (hy : Names X y v)
      (run : ∀ (a : Addr) (o : Obj) (k : Value) (d : Option Addr) (pn : List (Addr × Obj)), Zc k d o → (∃ vs, o.data = .fields vs) → PSs (X.suite a ((a, o) :: pn)) (st :: su) (cl a k d)) (r : ClsOk X n hl l) :
      ClsOk X n (.ExceptHandler (some (.Name y q1)) (some n) (st :: su) q2 :: hl) ((v, cl) :: l)
section
variable {X : Cx} {n : Str} {i : Nat} {body : List Stmt} {h0 : ExceptHandler} {hl : List ExceptHandler} {l : List (Value × Cl)} {pos : Pos} {tb : WX → TS} {Wo : WX}
theorem try_all (hs : X.stack = X.env :: X.outer) (hf : X.env.frame = some X.env.locals) (hN : X.N.Nodup) (hi : X.N[i]? = some n) (hn : X.env.kindOf n = some .local) (tk : Takes X Wo)
    (hb : ∀ (W : WX) (pn : List (Addr × Obj)) (xe : Value → Shared → Prop), Takes (X.tr pn xe) W → PassesOwn (model X.prog X.w) X.A X.env xe → PSs (X.tr pn xe) body (tb W))
    (hc : ClsOk X n (h0 :: hl) l) : PS X (.Try body (h0 :: hl) [] [] pos) (fun D σ H => tb (wAll X.K i Wo D l) D σ H) := by
  constructor
  intro pins s0 σ0 H0 D I0 h
  have ok := I0.ok
  have fr : X.A.frames = some (X.env :: X.outer) := by rw [ok.frames, hs]
  have loc : Loc X.env.scope n := .inl hn
  apply wpAny_Try_except
  have main := hb (wAll X.K i Wo D l) (X.pn ++ pins) (fun u t1 => wpAny (model X.prog X.w) X.A (noteFrame u X.env) (fun _ t2 => wpAny (model X.prog X.w) X.A (setFlight u none) (fun _ t3 =>
    wpAny (model X.prog X.w) X.A (handleBy u X.env (h0 :: hl)) (SP X pins D) X.xe t3) X.xe t2) X.xe t1)
  refine wpAny_mono ((main (fun u t h => ?_) PassesOwn.looking).run [] s0 σ0 H0 D (I0.toTry _) h) (fun f t h => ?_) (fun _ _ h => h)
  · obtain ⟨a, B, tI, pins1, σ1, H1, k, d, rfl, I1', ground, up, sky, na, os, ag, w⟩ := h
    have I1 : Inv X pins σ1 H1 tI := I1'.ofTry ok
    have sky2 : Sky B (X.env :: X.outer) a (Zc k d) X.env.locals t.heap := by rw [← hs]; exact sky
    show wpAny (model X.prog X.w) X.A (noteFrame (.ref a) X.env) _ _ _
    apply Sky.land Zc.steady fr hf sky2
    intro g3 fl3 up3
    have I3 : Inv X pins σ1 H1 { t with heap := g3 } := I1.landed ground fl3.1 (up.trans up3) os ag
    obtain ⟨o3, vs3, at3, z3, d3⟩ := fl3.there
    have outF : ∀ {g : Heap} {o : Obj} {vs : Array Value}, g.FunFrames B (X.env :: X.outer) → g.get? a = some o → o.data = .fields vs → a ∉ frs (X.env :: X.outer) := by
      intro g o vs ff e1 e2 hm
      obtain ⟨_, o', e3, no⟩ := ff.mem hm
      rw [e1] at e3
      cases e3
      exact no _ e2
    have nfr := outF fl3.2.2.1 at3 d3
    have nL : a ≠ X.env.locals := by
      intro e
      exact nfr (List.mem_filterMap.mpr ⟨X.env, List.mem_cons_self, by rw [hf, e]⟩)
    have nF : a ∉ X.fs := by
      intro hm
      obtain ⟨e, h1, h2⟩ := List.mem_filterMap.mp hm
      exact nfr (List.mem_filterMap.mpr ⟨e, List.mem_cons_of_mem _ h1, h2⟩)
    have S3 := I3.suite at3 d3 na nL nF
    suffices go : ∀ {hl' : List ExceptHandler} {l' : List (Value × Cl)}, ClsOk X n hl' l' → wAll X.K i Wo D l' k d σ1 H1 → wpAny (model X.prog X.w) X.A (handleBy (.ref a) X.env hl') (SP X pins D) X.xe { t with heap := g3 } from go hc w
    intro hl' l' hk
    induction hk with
    | nil =>
      intro w
      apply wpAny_handleBy_nil
      obtain ⟨_, _, _, o4, vs4, T, oT, ts4, e4, _, e5, e6, _⟩ := id fl3
      unfold PySem.passOn
      refine wpAny_bind (wpAny_field e4 e5 e6 ?_)
      rw [if_neg (by simp)]
      have last : wpAny (model X.prog X.w) X.A (setFlight (.ref a) X.env.frame) (fun _ t4 => wpAny (model X.prog X.w) X.A (throw (.ref a) : Sem Flow) (SP X pins D) X.xe t4) X.xe { t with heap := g3 } := by
        rw [hf]
        apply HandSPX.setFlight_upZ fl3
        intro g4 up4 up5
        exact wpAny_throw (tk _ _ ⟨a, B, tI, pins, σ1, H1, k, d, rfl, I1, ground, (up.trans up3).trans up5, .inr (.inr (by rw [hs]; exact up4)), na, os, ag, w⟩)
      first
        | exact wpAny_bind (wpAny_pure (wpAny_bind last))
        | exact wpAny_bind last
    | @cons y v cl st su q1 q2 hl2 l2 hy run r ih =>
      intro w
      obtain ⟨yes, hx, hyes, hno⟩ := w
      refine wpAny_handleBy_cons (codeAny_handlers_test ?_) (by intro z; cases z)
      have kind : PySem.W.Looks (model X.prog X.w) g3 (typeOf (.ref a)) k := fun A Q E s kk q => wpAny_typeOf_ref (kk _ _ at3) (by rw [z3.1]; exact q)
      have looks := PySem.W.exm_one (M := model X.prog X.w) I3.kIn kind hx
      have named : ∀ {Q E : Value → Shared → Prop}, Q v { t with heap := g3 } → wpAny (model X.prog X.w) (X.A.mark (some (.ref a))) (eval (.Name y q1) X.env) Q E { t with heap := g3 } := by
        intro Q E q
        rcases hy with ⟨n1, n2, n3 | ⟨n3, n4, n5⟩⟩
        · exact ld_glob (X := X.suite a ((a, o3) :: (X.pn ++ pins))) S3 n1 n3 q n2
        · exact ld_blt (X := X.suite a ((a, o3) :: (X.pn ++ pins))) S3 n1 n3 n4 q n5 n2
      refine named (looks.here ?_)
      cases yes with
      | false => exact ih (hno rfl)
      | true =>
        apply codeAny_handlers_suite_as
        apply HandSPX.lands_againZ fl3
        intro g4 fl4 up4
        have I4 : Inv X pins σ1 H1 { t with heap := g4 } := I1.landed ground fl4.1 ((up.trans up3).trans up4) os ag
        obtain ⟨o4, vs4, at4, z4, d4⟩ := fl4.there
        have S4 := I4.suite at4 d4 na nL nF
        refine store_ok (X := X.suite a ((a, o4) :: (X.pn ++ pins))) (v := .ref a) S4 hN hi loc rfl (fun t5 S5 => ?_) (.inr hn)
        have gone : ∀ {σ6 : L2.St} {H6 : Hp} {t6 : Shared} {Q : Shared → Prop}, Inv (X.suite a ((a, o4) :: (X.pn ++ pins))) [] σ6 H6 t6 → (∀ t7, Inv X pins (σ6.set i none) H6 t7 → Q t7) →
            wpAny (model X.prog X.w) X.A (do bindName X.env n .none; unbindBehindTheSuite X.env n q2) (fun _ t7 => Q t7) X.xe t6 := fun S6 hq => gone_ok (S6.unsuite ok) hN hi hn hq
        refine wpAny_mono ((run a o4 k d (X.pn ++ pins) z4 ⟨_, d4⟩).run [] t5 _ H1 _ S5 (hyes rfl a na)) (fun f t6 h => ?_) (fun _ _ z => False.elim z)
        cases f with
        | ret u =>
          obtain ⟨v6, σ6, H6, S6, r6, q6⟩ := h
          exact gone S6 fun t7 I7 => ⟨v6, _, H6, I7, r6, q6⟩
        | next =>
          obtain ⟨σ6, H6, S6, q6⟩ := h
          exact gone S6 fun t7 I7 => ⟨_, H6, I7, q6⟩
        | brk =>
          obtain ⟨σ6, H6, S6, q6⟩ := h
          exact gone S6 fun t7 I7 => ⟨_, H6, I7, q6⟩
        | cont =>
          obtain ⟨σ6, H6, S6, q6⟩ := h
          exact gone S6 fun t7 I7 => ⟨_, H6, I7, q6⟩
  · cases f with
    | next =>
      obtain ⟨σ1, H1, I1, q⟩ := h
      exact wpAny_execs_nil ⟨σ1, H1, I1.ofTry ok, q⟩
    | brk =>
      obtain ⟨σ1, H1, I1, q⟩ := h
      exact ⟨σ1, H1, I1.ofTry ok, q⟩
    | cont =>
      obtain ⟨σ1, H1, I1, q⟩ := h
      exact ⟨σ1, H1, I1.ofTry ok, q⟩
    | ret u =>
      obtain ⟨v, σ1, H1, I1, r, q⟩ := h
      exact ⟨v, σ1, H1, I1.ofTry ok, r, q⟩
end
/-! ### clauses that tell a word and what the error keeps -/
/-- return (t, wrong.at) -/
def clT (ca : String → Addr) (i : Nat) (c : String) (t : Str) : Cl := fun a k d D τ G => ∃ (dx : Addr) (v : V) (τ0 : L2.St), k = .ref (ca c) ∧ d = some dx ∧ G dx = some (.xd [(("at" : Str), v)]) ∧ τ = τ0.set i (some (.ref a)) ∧
  ∀ (p : Addr) (o : Obj), o.dict = none → G p = none → D.rt (.ref p) (upd G p (.frz o (.tup [.str t, v])))
def glS (sc : Scope) (y : Str) : Bool := decide (sc.names.lookup y = some NameKind.globalImplicit) && !(y == ("__debug__" : Str))
def hdC (sc : Scope) (w : Str) : List (String × Str) → List ExceptHandler → Bool
  | [], [] => true
  | (c, t) :: hs, .ExceptHandler (some (.Name y _)) (some n) [.Return (some (.Tuple [.Constant (.str t') _ _, .Attribute (.Name n2 _) f _] _ _)) _] _ :: hl =>
    decide (y = Str.ofString c) && decide (n = w) && decide (t' = t) && decide (n2 = w) && decide (f = "at") && glS sc y && hdC sc w hs hl
  | _, _ => false
/-- what is known of errors: each class stands in the module, and one is none of the others -/
structure ErrOk (P : Program) (K : PySem.W.Frag) (mg : Str → Option Value) (ca : String → Addr) (cs : List String) : Prop where
  ex : ∀ c ∈ cs, XcK P K (ca c) ∧ mg (Str.ofString c) = some (.ref (ca c))
  exm : ∀ c ∈ cs, ∀ c' ∈ cs, PySem.W.exmOne K (.ref (ca c)) (.ref (ca c')) = some (decide (c = c'))
section
variable {X : Cx} {ca : String → Addr} {cs : List String} {w : Str} {i : Nat} {D : Ends} {Wo : WX}
theorem cl_ok {c : String} {t : Str} {k1 k2 : Nat} {p1 p2 p3 p4 p5 : Pos} {a : Addr} {o : Obj} {k : Value} {d : Option Addr} {pn : List (Addr × Obj)} (T : XcK X.prog X.K (ca c)) (hw : X.N[i]? = some w) (hl : X.env.scope.names.lookup w = some .local) (hd : (w == ("__debug__" : Str)) = false) (hcd : (w == ("__classdict__" : Str)) = false)
    (hz : Zc k d o) (hf : ∃ vs, o.data = .fields vs) : PSs (X.suite a ((a, o) :: pn)) [.Return (some (.Tuple [.Constant (.str t) k1 p1, .Attribute (.Name w p2) "at" p3] k2 p4)) p5] (clT ca i c t a k d) := by
  have hv : Vis (X.suite a ((a, o) :: pn)).env.scope w := .inl hl
  have r1 := pe_xf (X := X) (a := a) (oe := o) (cls := k) (d := d) (pn := pn) (pos := p3) (n := "at") T.xf T.no hz hf (pe_var (X := X.suite a ((a, o) :: pn)) (i := i) (pos := p2) hw hv hd hcd)
  have r2 := pss_one (ps_ret (pos := p5) (pe_tupF (X := X.suite a ((a, o) :: pn)) (k := k2) (pos := p4) (pa_cons (pe_str (j := k1) (pos := p1) (x := t)) (pa_cons r1 pa_nil))))
  refine ⟨fun pins s σ H D I h => ?_⟩
  obtain ⟨dx, v, τ0, e1, e2, e3, e4, e5⟩ := h
  have hlen : σ.length = X.N.length := I.len
  have hi : i < X.N.length := (List.getElem?_eq_some_iff.mp hw).1
  have hat : σ[i]? = some (some (.ref a)) := by
    rw [e4] at hlen ⊢
    rw [List.length_set] at hlen
    rw [List.getElem?_set_self (by omega)]
  refine r2.run pins s σ H D I ⟨.ref a, hat, rfl, e1, dx, _, v, e2, e3, by rfl, by rw [sizeLine_eq]; show 2 ≤ _; omega, fun p o' ho hp => e5 p o' ho hp⟩
theorem hds_ok (hw : X.N[i]? = some w) (hl : X.env.scope.names.lookup w = some .local) (hd : (w == ("__debug__" : Str)) = false) (hcd : (w == ("__classdict__" : Str)) = false) : ∀ {hs : List (String × Str)} {hds : List ExceptHandler}, (∀ h ∈ hs, XcK X.prog X.K (ca h.1) ∧ X.mg (Str.ofString h.1) = some (.ref (ca h.1))) → hdC X.env.scope w hs hds = true →
    ClsOk X w hds (hs.map fun h => (.ref (ca h.1), clT ca i h.1 h.2))
  | [], [], _, _ => .nil
  | [], _ :: _, _, h => by unfold hdC at h; cases h
  | _ :: _, [], _, h => by unfold hdC at h; cases h
  | (c, t) :: hs, hd' :: hds, hx, h => by
    unfold hdC at h
    split at h
    · rename_i h1 _; cases h1
    · rename_i h1 h2
      cases h1; cases h2
      simp only [Bool.and_eq_true, decide_eq_true_eq] at h
      obtain ⟨⟨⟨⟨⟨⟨e1, e2⟩, e3⟩, e4⟩, e5⟩, e6⟩, e7⟩ := h
      have e2 := e2.symm
      have e3 := e3.symm
      have e4 := e4.symm
      subst e1 e2 e3 e4 e5
      unfold glS at e6
      simp only [Bool.and_eq_true, decide_eq_true_eq, Bool.not_eq_true'] at e6
      obtain ⟨T, hm⟩ := hx _ List.mem_cons_self
      exact .cons ⟨e6.1, e6.2, .inl hm⟩ (fun a o k d pn hz hf => cl_ok T hw hl hd hcd hz hf) (hds_ok hw hl hd hcd (fun h hh => hx h (List.mem_cons_of_mem _ hh)) e7)
    · cases h
theorem wAll_go {c : String} {t : Str} {dx : Addr} {v : V} {τ : L2.St} {G : Hp} (hx : G dx = some (.xd [(("at" : Str), v)])) (hq : ∀ (p : Addr) (o : Obj), o.dict = none → G p = none → D.rt (.ref p) (upd G p (.frz o (.tup [.str t, v])))) :
    ∀ {hs : List (String × Str)}, (∀ h ∈ hs, PySem.W.exmOne X.K (.ref (ca c)) (.ref (ca h.1)) = some (decide (c = h.1))) → HF.tag hs c = some t → wAll X.K i Wo D (hs.map fun h => (.ref (ca h.1), clT ca i h.1 h.2)) (.ref (ca c)) (some dx) τ G
  | [], _, h => by cases h
  | (c', t') :: hs, he, h => by
    refine ⟨decide (c = c'), he _ List.mem_cons_self, fun e a ha => ?_, fun e => ?_⟩
    · have e := of_decide_eq_true e
      subst e
      unfold HF.tag at h
      rw [List.find?_cons, decide_eq_true rfl] at h
      have h : t' = t := by simpa using h
      subst h
      exact ⟨dx, v, τ, rfl, rfl, hx, rfl, hq⟩
    · have e := of_decide_eq_false e
      refine wAll_go hx hq (fun h hh => he h (List.mem_cons_of_mem _ hh)) ?_
      unfold HF.tag at h ⊢
      rw [List.find?_cons, decide_eq_false (fun z => e z.symm)] at h
      exact h
end
/-! ### a lambda handed to a def that hears of errors -/
def EEh (ca : String → Addr) (hs : List (String × Str)) (Q : VK) : XK := fun k d G => ∃ (c : String) (t : Str) (dx : Addr) (v : V), HF.tag hs c = some t ∧ c ∈ hs.map (·.1) ∧ k = .ref (ca c) ∧ d = some dx ∧ G dx = some (.xd [(("at" : Str), v)]) ∧
  ∀ (p : Addr) (o : Obj), o.dict = none → G p = none → Q (.ref p) (upd G p (.frz o (.tup [.str t, v])))
def QQh (k : HK) (Q : VK) : VK := fun v G => ∀ (p : Addr) (o : Obj), o.dict = none → G p = none → Q (.ref p) (upd G p (.frz o (.tup [.str "told", match k with
  | .zero => .int 0
  | _ => v])))
def TTh (ca : String → Addr) (h : HF) : (XK → Hp → VK → Prop) → Hp → VK → Prop := fun tl G Q => ∀ R : VK, (∀ v G', QQh h.k Q v G' → R v G') → tl (EEh ca h.hs Q) G R
/-- the text of such a def: a its parameter; w (at i) the error's name; y (at j) the name of what is told -/
def heardC (sc : Scope) (a w y : Str) (h : HF) : List Stmt → Bool
  | [.Try [.Return (some (.Tuple [.Constant (.str t) _ _, .Call (.Name b _) [] [] _] _ _)) _] (h0 :: hl) [] [] _] => decide (h.k = .ret) && decide (t = "told") && decide (b = a) && hdC sc w h.hs (h0 :: hl)
  | [.Try [.Assign [.Name z _] (.Call (.Name b _) [] [] _) _] (h0 :: hl) [] [] _, .Return (some (.Tuple [.Constant (.str t) _ _, .Name z2 _] _ _)) _] => decide (h.k = .var) && decide (t = "told") && decide (b = a) && decide (z = y) && decide (z2 = y) && hdC sc w h.hs (h0 :: hl)
  | [.Try [.Expr (.Call (.Name b _) [] [] _) _] (h0 :: hl) [] [] _, .Return (some (.Tuple [.Constant (.str t) _ _, .Constant (.int z) _ _] _ _)) _] => decide (h.k = .zero) && decide (t = "told") && decide (b = a) && decide (z = 0) && hdC sc w h.hs (h0 :: hl)
  | _ => false
def locS (sc : Scope) (y : Str) : Bool := decide (sc.names.lookup y = some NameKind.local) && !(y == ("__debug__" : Str)) && !(y == ("__classdict__" : Str))
theorem ErrOk.sub {P : Program} {K : PySem.W.Frag} {mg : Str → Option Value} {ca : String → Addr} {cs cs' : List String} (e : ErrOk P K mg ca cs) (h : cs'.all (fun c => decide (c ∈ cs)) = true) : ErrOk P K mg ca cs' := by
  rw [List.all_eq_true] at h
  have h := fun c hc => of_decide_eq_true (h c hc)
  exact ⟨fun c hc => e.ex c (h c hc), fun c hc c' hc' => e.exm c (h c hc) c' (h c' hc')⟩
section
variable {X : Cx} {ca : String → Addr}
theorem pss_impT {st : List Stmt} {t u : TS} (h : PSs X st t) (i : ∀ D σ H, u D σ H → t D σ H) : PSs X st u := ⟨fun pins s σ H D I q => h.run pins s σ H D I (i _ _ _ q)⟩
theorem tag_mem {hs : List (String × Str)} {c : String} {t : Str} (h : HF.tag hs c = some t) : c ∈ hs.map (·.1) := by
  unfold HF.tag at h
  cases e : hs.find? fun h => decide (h.1 = c) with
  | none => rw [e] at h; cases h
  | some p =>
    have h1 := List.find?_some e
    have h2 := List.mem_of_find?_eq_some e
    exact List.mem_map.mpr ⟨p, h2, of_decide_eq_true h1⟩
theorem heard_gives {Ng : List Str} {x a w y q : Str} {sg : Scope} {g : Addr} {cdg : Value} {h : HF} {bg : List Stmt} {i j : Nat} (E : ErrOk X.prog X.K X.mg ca (h.hs.map (·.1))) (hb : heardC sg a w y h bg = true) (hnd : Ng.Nodup) (h0 : ∀ f : Addr, (L2.start Ng [V.ref f])[0]? = some (some (V.ref f)))
    (hw : Ng[i]? = some w) (lw : locS sg w = true) (hy : Ng[j]? = some y) (ly : locS sg y = true) : LamX.GivesTo X Ng x sg g cdg bg a q (TTh ca h) := by
  intro f c' s H Q tl act hc hh
  unfold locS at lw ly
  simp only [Bool.and_eq_true, decide_eq_true_eq, Bool.not_eq_true'] at lw ly
  have two : ([V.str "told", V.non] : List V).length ≤ sizeLine := by rw [sizeLine_eq]; show 2 ≤ _; omega
  have hx : ∀ e ∈ h.hs, XcK X.prog X.K (ca e.1) ∧ X.mg (Str.ofString e.1) = some (.ref (ca e.1)) := fun e he => E.ex e.1 (List.mem_map.mpr ⟨e, he, rfl⟩)
  have fire : ∀ {D : Ends} {R : VK} {l : L2.WX}, D.rt = R → ∀ k d σ' G, EEh ca h.hs R k d G → wAll X.K i l D (h.hs.map fun e => (.ref (ca e.1), clT ca i e.1 e.2)) k d σ' G := by
    intro D R l eD k d σ' G hE
    obtain ⟨c, t, dx, v, e1, e2, rfl, rfl, e3, e4⟩ := hE
    subst eD
    exact wAll_go (X := X) e3 e4 (fun e he => E.exm c e2 e.1 (List.mem_map.mpr ⟨e, he, rfl⟩)) e1
  unfold heardC at hb
  split at hb <;> try (cases hb; done)
  · -- return ("told", work())
    rename_i t k1 p1 b p2 p3 k2 p4 p5 h1 hl p6
    simp only [Bool.and_eq_true, decide_eq_true_eq] at hb
    obtain ⟨⟨⟨e1, e2⟩, e3⟩, e4⟩ := hb
    have e3 := e3.symm
    subst e2 e3
    refine ⟨_, pss_one (try_all (X := (cxOf C8.CX0 X.prog X.w X.K X.mg X.base Ng x sg g cdg X.A X.stack s H C8.E0).nox) (i := i) (n := w)
      (tb := fun W D σ H => ∃ Ech : XK, (∀ cls d σ' H', Ech cls d H' → W cls d σ' H') ∧ σ[0]? = some (some (.ref f)) ∧ H c' = some (LamX.CodeO c' q) ∧ tl Ech H (fun v H1 => ([V.str "told", v] : List V).length ≤ sizeLine ∧ ∀ (p : Addr) (o : Obj), o.dict = none → H1 p = none → D.rt (.ref p) (upd H1 p (.frz o (.tup [V.str "told", v])))))
      rfl rfl hnd hw lw.1.1 LamX.takes0 (fun W pn xe tk _ => ?_) (hds_ok (X := (cxOf C8.CX0 X.prog X.w X.K X.mg X.base Ng x sg g cdg X.A X.stack s H C8.E0).nox) (i := i) hw lw.1.1 lw.1.2 lw.2 hx e4)), ?_⟩
    · refine ⟨fun pins s' σ H' D I ⟨Ech, hW, g1, g2, g3⟩ => ?_⟩
      exact (pss_one (ps_ret (pos := p5) (pe_tupF (k := k2) (pos := p4) (pa_cons (pe_str (j := k1) (pos := p1) (x := "told")) (pa_cons (act W pn xe Ech p2 p3 tk hW) pa_nil))))).run pins s' σ H' D I ⟨g1, g2, g3⟩
    · exact ⟨EEh ca h.hs Q, fire rfl, h0 f, hc, hh _ fun v G' hq => ⟨two, fun p o ho hp => by rw [e1] at hq; exact hq p o ho hp⟩⟩
  · -- told = work(); return ("told", told)
    rename_i z pz b p2 p3 p4 h1 hl p5 t k1 p6 z2 pz2 k2 p7 p8
    simp only [Bool.and_eq_true, decide_eq_true_eq] at hb
    obtain ⟨⟨⟨⟨⟨e1, e2⟩, e3⟩, e5⟩, e6⟩, e4⟩ := hb
    have e3 := e3.symm
    have e5 := e5.symm
    have e6 := e6.symm
    subst e2 e3 e5 e6
    let tail : TS := tRet (fun σ H Q => ∃ v, σ[j]? = some (some v) ∧ ∀ (p : Addr) (o : Obj), o.dict = none → H p = none → Q (.ref p) (upd H p (.frz o (.tup [V.str "told", v]))))
    have r2 : PSs (cxOf C8.CX0 X.prog X.w X.K X.mg X.base Ng x sg g cdg X.A X.stack s H C8.E0).nox [.Return (some (.Tuple [.Constant (.str "told") k1 p6, .Name y pz2] k2 p7)) p8] tail := by
      refine pss_impT (pss_one (ps_ret (pos := p8) (pe_tupF (k := k2) (pos := p7) (pa_cons (pe_str (j := k1) (pos := p6) (x := "told")) (pa_cons (pe_var (X := (cxOf C8.CX0 X.prog X.w X.K X.mg X.base Ng x sg g cdg X.A X.stack s H C8.E0).nox) (i := j) (pos := pz2) hy (.inl ly.1.1) ly.1.2 ly.2) pa_nil))))) fun D σ H hq => ?_
      obtain ⟨v, g1, g2⟩ := hq
      exact ⟨v, g1, two, g2⟩
    refine ⟨_, pss_cons (try_all (X := (cxOf C8.CX0 X.prog X.w X.K X.mg X.base Ng x sg g cdg X.A X.stack s H C8.E0).nox) (i := i) (n := w)
      (tb := fun W D σ H => ∃ Ech : XK, (∀ cls d σ' H', Ech cls d H' → W cls d σ' H') ∧ σ[0]? = some (some (.ref f)) ∧ H c' = some (LamX.CodeO c' q) ∧ tl Ech H (fun v H1 => D.nx (σ.set j (some v)) H1))
      rfl rfl hnd hw lw.1.1 LamX.takes0 (fun W pn xe tk _ => ?_) (hds_ok (X := (cxOf C8.CX0 X.prog X.w X.K X.mg X.base Ng x sg g cdg X.A X.stack s H C8.E0).nox) (i := i) hw lw.1.1 lw.1.2 lw.2 hx e4)) r2, ?_⟩
    · refine ⟨fun pins s' σ H' D I ⟨Ech, hW, g1, g2, g3⟩ => ?_⟩
      exact (pss_one (ps_set (X := (cxOf C8.CX0 X.prog X.w X.K X.mg X.base Ng x sg g cdg X.A X.stack s H C8.E0).tr pn xe) (i := j) (pos := p4) hnd hy (.inl ly.1.1) (act W pn xe Ech p2 p3 tk hW) (swaps_plain rfl) (.inr ly.1.1))).run pins s' σ H' D I ⟨g1, g2, g3⟩
    · refine ⟨EEh ca h.hs Q, fire rfl, h0 f, hc, hh _ fun v G' hq => ⟨v, ?_, fun p o ho hp => by rw [e1] at hq; exact hq p o ho hp⟩⟩
      have hj := (List.getElem?_eq_some_iff.mp hy).1
      rw [List.getElem?_set_self (by unfold L2.start; simp only [List.length_append, List.length_map, List.length_replicate]; simp; omega)]
  · -- work(); return ("told", 0)
    rename_i b p2 p3 p4 h1 hl p5 t k1 p6 z k3 p9 k2 p7 p8
    simp only [Bool.and_eq_true, decide_eq_true_eq] at hb
    obtain ⟨⟨⟨⟨e1, e2⟩, e3⟩, e5⟩, e4⟩ := hb
    have e3 := e3.symm
    subst e2 e3 e5
    let tail : TS := tRet (fun σ H Q => ∀ (p : Addr) (o : Obj), o.dict = none → H p = none → Q (.ref p) (upd H p (.frz o (.tup [V.str "told", .int 0]))))
    have r2 : PSs (cxOf C8.CX0 X.prog X.w X.K X.mg X.base Ng x sg g cdg X.A X.stack s H C8.E0).nox [.Return (some (.Tuple [.Constant (.str "told") k1 p6, .Constant (.int 0) k3 p9] k2 p7)) p8] tail := by
      refine pss_impT (pss_one (ps_ret (pos := p8) (pe_tupF (k := k2) (pos := p7) (pa_cons (pe_str (j := k1) (pos := p6) (x := "told")) (pa_cons (pe_int (i := 0) (j := k3) (pos := p9)) pa_nil))))) fun D σ H hq => ?_
      exact ⟨two, hq⟩
    refine ⟨_, pss_cons (try_all (X := (cxOf C8.CX0 X.prog X.w X.K X.mg X.base Ng x sg g cdg X.A X.stack s H C8.E0).nox) (i := i) (n := w)
      (tb := fun W D σ H => ∃ Ech : XK, (∀ cls d σ' H', Ech cls d H' → W cls d σ' H') ∧ σ[0]? = some (some (.ref f)) ∧ H c' = some (LamX.CodeO c' q) ∧ tl Ech H (fun v H1 => D.nx σ H1))
      rfl rfl hnd hw lw.1.1 LamX.takes0 (fun W pn xe tk _ => ?_) (hds_ok (X := (cxOf C8.CX0 X.prog X.w X.K X.mg X.base Ng x sg g cdg X.A X.stack s H C8.E0).nox) (i := i) hw lw.1.1 lw.1.2 lw.2 hx e4)) r2, ?_⟩
    · refine ⟨fun pins s' σ H' D I ⟨Ech, hW, g1, g2, g3⟩ => ?_⟩
      exact (pss_one (ps_expr (pos := p4) (act W pn xe Ech p2 p3 tk hW) (swaps_plain rfl))).run pins s' σ H' D I ⟨g1, g2, g3⟩
    · exact ⟨EEh ca h.hs Q, fire rfl, h0 f, hc, hh _ fun v G' hq p o ho hp => by rw [e1] at hq; exact hq p o ho hp⟩
/-- a def that hears of errors stands in the module -/
structure HeardK (P : Program) (K : PySem.W.Frag) (mg : Str → Option Value) (ca : String → Addr) (g : String) (h : HF) : Prop where
  ex : ∃ (gA : Addr) (fd : FuncData) (pg : Arguments) (bg : List Stmt) (sg : Scope) (Ng : List Str) (a w y : Str) (i j : Nat), mg (Str.ofString g) = some (.ref gA) ∧ FunD K (Str.ofString g) (Str.ofString g) pg bg sg [] [] gA fd ∧ L2.Binds K fd [a] [] ∧ FnScope Ng [a] sg ∧
    Ng[0]? = some a ∧ locS sg a = true ∧ Ng[i]? = some w ∧ locS sg w = true ∧ Ng[j]? = some y ∧ locS sg y = true ∧ heardC sg a w y h bg = true
  err : ErrOk P K mg ca (h.hs.map (·.1))
theorem rep_extN {K : PySem.W.Frag} {ρ : Pl} {M : Sto} {H H1 : Hp} (rp : Rep K ρ M H) (e : LamX.ExtN H H1) (t : LamX.Tabs (tbK K) H1) : Rep K ρ M H1 ∧ Ext ρ M H ρ M H1 := by
  have hq : ∀ b ∈ ρ.hid, H1 b = H b := fun b hb => by
    obtain ⟨_, xs, hx⟩ := rp.hid b hb
    rw [hx, e _ _ hx not_lst]
  have x : Ext ρ M H ρ M H1 := ⟨⟨[], by simp⟩, rfl, hq, fun b o hb tb nb => ⟨e b o hb tb, nb⟩⟩
  refine ⟨⟨rp.len, rp.nd, fun i a u h1 h2 => ?_, fun b hb => ⟨(rp.hid b hb).1, by rw [hq b hb]; exact (rp.hid b hb).2⟩, fun p hp => ⟨(rp.tab p hp).1, (rp.tab p hp).2.1, t p hp⟩⟩, x⟩
  have r := rp.obj i a u h1 h2
  refine r.ext x ?_
  cases r with
  | dead h n => rw [h, e _ _ h n]
  | lst h _ _ => rw [h, e _ _ h not_lst]
  | dct h _ _ => rw [h, e _ _ h (fun _ z => by cases z)]
def lamP : Arguments → Bool
  | ⟨[], [], none, [], [], none, []⟩ => true
  | _ => false
theorem z_heard {W : WX} {C : Calls} {body : E} {pb : Expr} {lv : Nat} {g : String} {h : HF} {params : Arguments} {scope : Scope} {p lpos pos : Pos} (hk : HeardK X.prog X.K X.mg ca g h) (hg : Gl X (Str.ofString g)) (hdb : (Str.ofString g == ("__debug__" : Str)) = false)
    (TB : ∃ c P, (c, P, X.env.qual ++ ("<lambda>" : Str)) ∈ csK X.K ∧ X.env.code = .ref c ∧ LamX.TabB X.base X.mg c P) (hu : ∀ p ∈ tbK X.K, ∀ p' ∈ tbK X.K, p.1 = p'.1 → p.2 = p'.2) (hr : Room (lv + 2) X.A) (hL : LamX.lamSB X.env.scope scope = true) (hp : lamP params = true)
    (hbody : ∀ (A : Around) (outer : List Env) (s : Shared) (H : Hp) (E : XK) (f c' : Addr), Room lv (A.deeper (LamX.lamEnv X scope s.heap.objs.size f c')) → PE (LamX.lamCx X A outer s H E scope f c') pb (zE (LamX.lamCx X A outer s H E scope f c') ca (fun c d _ H => E c d H) C body)) :
    PE X (.Call (.Name (Str.ofString g) p) [.Lambda params pb scope lpos] [] pos) (zE X ca W C (.heard g h body)) := by
  obtain ⟨gA, fd, pg, bg, sg, Ng, a, w, y, i, j, k1, k2, k3, k4, k5, k6, k7, k8, k9, k10, k11⟩ := hk.ex
  obtain ⟨oc, od, dV, kV, doc, pm, an, cdv, ct, osl, rfl, lk, hcd, hD, hK⟩ := k2.ex
  obtain ⟨c, P, t1, t2, t3⟩ := TB
  have hl6 := k6
  unfold locS at hl6
  simp only [Bool.and_eq_true, decide_eq_true_eq, Bool.not_eq_true'] at hl6
  have hmem : (P, X.env.qual ++ ("<lambda>" : Str)) ∈ tbK X.K := List.mem_map.mpr ⟨_, t1, rfl⟩
  have hnd := k4.nd
  have rule := LamX.pe_lamcall (X := X) (T := tbK X.K) (TT := TTh ca h) (p := p) (lpos := lpos) (pos := pos) (body := pb) (params := params) (t := fun E => rd X.K ca (rDD X.K) (fun c d _ H => E c d H) fun env M => evE C body env M) hg k1 k2.kp lk hcd k3 k4 k5 (.inl hl6.1.1)
    (heard_gives hk.err k11 hnd (fun f => by unfold L2.start; simp) k7 k8 k9 k10) t3 t2 hmem (fun q hq e => hu q hq _ hmem e) hr (LamX.lamS_by hL) (by
      unfold lamP at hp
      split at hp
      · rfl
      · cases hp) (fun q cl pm cv ctv => by
      unfold lamP at hp
      split at hp
      · rfl
      · cases hp) (fun A outer s H E f c' hr' => hbody A outer s H E f c' hr') hdb hl6.1.2 hl6.2
  refine pe_imp rule fun σ H Q hq => ?_
  obtain ⟨ρ, env, M, rp, re, f⟩ := hq
  dsimp only [evE] at f
  refine ⟨fun q hq => (rp.tab q hq).2.2, fun H1 e1 tt1 R hR => ?_⟩
  obtain ⟨rp1, x1⟩ := rep_extN rp e1 tt1
  refine ⟨ρ, env, M, rp1, re.ext x1, ?_⟩
  have f1 := f.go x1
  show Fi X.K ca (rDD X.K) _ σ ρ M H1 (evE C body env M) R
  cases he : evE C body env M with
  | fail => rw [he] at f1; exact f1.elim
  | ok d M1 =>
    rw [he] at f1
    intro ρ' H' v rp' x' qv
    refine hR v H' fun q o ho hq => ?_
    have q2 : RDs X.K H' (Al ρ' M1) ρ' [.str "told", match h.k with
      | .zero => .int 0
      | _ => d] [V.str "told", match h.k with
      | .zero => .int 0
      | _ => v] := by
      refine .cons (.str _) (.cons ?_ .nil)
      split
      · exact .int 0
      · exact qv
    obtain ⟨r1, y1, q1⟩ := rp'.newT hq ho (by rw [sizeLine_eq]; show 2 ≤ _; omega) q2
    exact f1 ρ' _ _ r1 (x'.trans y1) q1
  | exc c pd M1 =>
    rw [he] at f1
    cases pd with
    | none => exact f1.elim
    | some d =>
      dsimp only [hearD] at f1
      cases ht : HF.tag h.hs c with
      | none => rw [ht] at f1; exact f1.elim
      | some t =>
        rw [ht] at f1
        intro ρ' H' cv dd rp' x' ⟨ecv, a', v, ed, na, ha, qv⟩
        refine ⟨c, t, a', v, ht, tag_mem ht, ecv, ed, ha, fun q o ho hq => ?_⟩
        obtain ⟨r1, y1, q1⟩ := rp'.newT hq ho (by rw [sizeLine_eq]; show 2 ≤ _; omega) (.cons (.str t) (.cons qv .nil))
        exact f1 ρ' _ _ r1 (x'.trans y1) q1
end
end Z


/-! Z14: a checker of expressions, and that it is right. -/
namespace Z
open PySem L2 PySem.Spec PyProof.Rows

mutual
def D.same : D → D → Bool
  | .non, .non => true
  | .bl a, .bl b => a == b
  | .int i, .int j => decide (i = j)
  | .str x, .str y => decide (x = y)
  | .tup xs, .tup ys => D.sames xs ys
  | .lst xs, .lst ys => D.sames xs ys
  | .scr xs, .scr ys => D.sames xs ys
  | .loc n, .loc m => decide (n = m)
  | _, _ => false
def D.sames : List D → List D → Bool
  | [], [] => true
  | x :: xs, y :: ys => D.same x y && D.sames xs ys
  | _, _ => false
end
mutual
theorem same_eq : ∀ {a b : D}, D.same a b = true → a = b
  | .non, b, h => by cases b <;> first | rfl | cases h
  | .bl _, b, h => by cases b <;> first | (unfold D.same at h; simp at h; rw [h]) | cases h
  | .int _, b, h => by cases b <;> first | (unfold D.same at h; simp at h; rw [h]) | cases h
  | .str _, b, h => by cases b <;> first | (unfold D.same at h; simp at h; rw [h]) | cases h
  | .tup xs, b, h => by
    cases b <;> try (cases h; done)
    rename_i ys
    rw [sames_eq (show D.sames xs ys = true from h)]
  | .lst xs, b, h => by
    cases b <;> try (cases h; done)
    rename_i ys
    rw [sames_eq (show D.sames xs ys = true from h)]
  | .scr xs, b, h => by
    cases b <;> try (cases h; done)
    rename_i ys
    rw [sames_eq (show D.sames xs ys = true from h)]
  | .loc _, b, h => by cases b <;> first | (unfold D.same at h; simp at h; rw [h]) | cases h
theorem sames_eq : ∀ {a b : List D}, D.sames a b = true → a = b
  | [], [], _ => rfl
  | [], _ :: _, h => by unfold D.sames at h; cases h
  | _ :: _, [], h => by unfold D.sames at h; cases h
  | x :: xs, y :: ys, h => by
    unfold D.sames at h
    rw [Bool.and_eq_true] at h
    rw [same_eq h.1, sames_eq h.2]
end
/-- what the module's names stand for: constants; defs that may be called (by place, by keywords) -/
structure Mo where
  gl : List (String × D)
  fs : List (String × Option (List Str))
  hs : List (String × HF)
  ex : List String
/-- where no lambda is made, nothing raised -/
def Mo.low (mo : Mo) : Mo := ⟨mo.gl, mo.fs, [], []⟩
def bltN : List Str := ["len", "abs", "int", "all", "any", "sum", "max", "min", "tuple", "list", "sorted", "dict", "str", "set", "isinstance", "range", "enumerate", "zip", "bool", "NoneType", "super"]
theorem room65 {k : Nat} {A : Around} (r : Room k A) : A.units + 65 < cLine := by have := r.un; omega
structure MoOk (X : Cx) (ca : String → Addr) (C : Calls) (mo : Mo) : Prop where
  calm : X.calm = true
  un : X.A.units + 65 < cLine
  gl : ∀ p ∈ mo.gl, ∃ v u, X.mg (Str.ofString p.1) = some u ∧ RelV v u ∧ ∀ H al ρ, RD X.K H al ρ p.2 v
  fs : ∀ p ∈ mo.fs, FnZ X ca C p.1 (Str.ofString p.1) p.2
  bl : ∀ x ∈ bltN, X.mg x = none
  lam : mo.hs ≠ [] → (∃ lv, (∀ p ∈ mo.fs, FnL X ca C p.1 (Str.ofString p.1) p.2 lv) ∧ Room (lv + 2) X.A) ∧ (∃ c P, (c, P, X.env.qual ++ ("<lambda>" : Str)) ∈ csK X.K ∧ X.env.code = .ref c ∧ LamX.TabB X.base X.mg c P) ∧ (∀ p ∈ tbK X.K, ∀ p' ∈ tbK X.K, p.1 = p'.1 → p.2 = p'.2)
  hs : ∀ p ∈ mo.hs, HeardK X.prog X.K X.mg ca p.1 p.2
  ex : ErrOk X.prog X.K X.mg ca mo.ex
  rr : mo.ex ≠ [] → Room 2 X.A ∧ X.stack = X.env :: X.outer ∧ X.env.frame = some X.env.locals
def dbgC (x : Str) : Bool := !(x == ("__debug__" : Str)) && !(x == ("__classdict__" : Str))
def visC (c : CC) (x : Str) : Bool := match c.sc.names.lookup x with
  | some .local => true
  | some .cell => true
  | some .free => true
  | _ => false
def glC (c : CC) (x : Str) : Bool := decide (c.sc.names.lookup x = some .globalImplicit) && dbgC x
def bltC (c : CC) (x : Str) : Bool := glC c x && decide (x ∈ bltN)
def hasF (mo : Mo) (f : String) (k : Option (List Str)) : Bool := mo.fs.any fun p => decide (p.1 = f) && decide (p.2 = k)
def hasG (mo : Mo) (g : String) (d : D) : Bool := mo.gl.any fun p => decide (p.1 = g) && D.same p.2 d
def hasH (mo : Mo) (g : String) (h : HF) : Bool := mo.hs.any fun p => decide (p.1 = g) && decide (p.2 = h)
def ownL (c : CC) (own : List Nat) : List (Str × Nat) := own.filterMap fun i => (c.N[i]?).map fun x => (x, i)
def inner (c : CC) (scope : Scope) : CC := ⟨c.N, relS scope c.sc, fun x => scope.names.lookup x == some .cell⟩
def lamC (c : CC) (scope : Scope) : CC := ⟨c.N, scope, fun _ => false⟩
def typC (c : CC) : Bool := [Ty.int, .bool, .str, .tup, .lst, .dct].all fun t => true
def tysG (c : CC) (ts : List Ty) : Bool := ts.all fun t => bltC c (tyN t)
mutual
/-- may it be a test? -/
def tstE : E → Bool
  | .ite _ _ _ => false
  | .frz _ => false
  | .not a => tstE a
  | .boo _ es => tstEs es
  | _ => true
def tstEs : Es → Bool
  | .nil => true
  | .cons a r => tstE a && tstEs r
end
mutual
def chkE (mo : Mo) (c : CC) : E → Expr → Bool
  | .nvr, _ => true
  | .var i, pe => (match pe with
    | .Name x _ => decide (c.N[i]? = some x) && visC c x && dbgC x
    | _ => false)
  | .cst d, pe => (match d, pe with
    | .int i, .Constant (.int j) _ _ => decide (i = j)
    | .bl i, .Constant (.bool j) _ _ => decide (i = j)
    | .non, .Constant .none _ _ => true
    | .str i, .Constant (.str j) _ _ => decide (i = j)
    | _, _ => false)
  | .gl g d, pe => (match pe with
    | .Name x _ => decide (x = Str.ofString g) && glC c x && hasG mo g d
    | _ => false)
  | .bin op a b, pe => (match pe with
    | .BinOp pa o pb _ => decide (o = bopOf op) && chkE mo c a pa && chkE mo c b pb
    | _ => false)
  | .neg a, pe => (match pe with
    | .UnaryOp o pa _ => decide (o = .USub) && chkE mo c a pa
    | _ => false)
  | .cmp op a b, pe => (match pe with
    | .Compare pa [o] [pb] _ => decide (o = copOf op) && plainX pb && chkE mo c a pa && chkE mo c b pb
    | _ => false)
  | .chain o1 o2 a b d, pe => (match pe with
    | .Compare pa [p1, p2] [pb, pd] _ => decide (p1 = copOf o1) && decide (p2 = copOf o2) && plainX pd && chkE mo c a pa && chkE mo c b pb && chkE mo c d pd
    | _ => false)
  | .isN g a, pe => (match pe with
    | .Compare pa [o] [.Constant k _ _] _ => decide (o = if g then .IsNot else .Is) && decide (k = .none) && chkE mo c a pa
    | _ => false)
  | .isB g b a, pe => (match pe with
    | .Compare pa [o] [.Constant k _ _] _ => decide (o = if g then .IsNot else .Is) && decide (k = .bool b) && chkE mo c a pa
    | _ => false)
  | .boo k es, pe => (match pe with
    | .BoolOp o ps _ => decide (o = bopB k) && decide (ps ≠ []) && chkEs mo c es ps
    | _ => false)
  | .not a, pe => (match pe with
    | .UnaryOp o pa _ => decide (o = .Not) && chkE mo c a pa
    | _ => false)
  | .ite d a b, pe => (match pe with
    | .IfExp pd pa pb _ => tstE d && chkE mo c d pd && chkE mo c a pa && chkE mo c b pb
    | _ => false)
  | .tup es, pe => (match pe with
    | .Tuple ps _ _ => fitLen es.len && ps.all plainX && chkEs mo c es ps
    | _ => false)
  | .tstar a b, pe => (match pe with
    | .Tuple [pa, .Starred pb _] _ _ => plainX pa && chkE mo c a pa && chkE mo c b pb
    | _ => false)
  | .lst _ es, pe => (match pe with
    | .List ps _ => fitLen es.len && ps.all plainX && chkEs mo c es ps
    | _ => false)
  | .dic0, pe => (match pe with
    | .Dict [] [] _ => true
    | _ => false)
  | .idx a i, pe => (match pe with
    | .Subscript pa pb _ => plainX pb && chkE mo c a pa && chkE mo c i pb
    | _ => false)
  | .slc _ a lo hi, pe => (match pe with
    | .Subscript pa (.Slice pl ph none _) _ => chkE mo c a pa && chkO mo c lo pl && chkO mo c hi ph
    | _ => false)
  | .rev _ a, pe => (match pe with
    | .Subscript pa (.Slice none none (some (.UnaryOp o (.Constant k _ _) _)) _) _ => decide (o = .USub) && decide (k = .int 1) && chkE mo c a pa
    | _ => false)
  | .call f es, pe => (match pe with
    | .Call (.Name x _) ps [] _ => decide (x = Str.ofString f) && glC c x && hasF mo f none && ps.all plainX && chkEs mo c es ps
    | _ => false)
  | .callk f es ks kes, pe => (match pe with
    | .Call (.Name x _) ps kws _ => decide (x = Str.ofString f) && glC c x && hasF mo f (some (ks.map Str.ofString)) && ps.all plainX && chkEs mo c es ps && chkK mo c kes kws && decide (kws.map (·.arg) = ks.map fun k => some (Str.ofString k))
    | _ => false)
  | .bi b _ es, pe => (match pe with
    | .Call (.Name x _) ps [] _ => (!b.two && decide (x = biName b) && bltC c x && decide (ps ≠ []) && ps.all plainX && chkEs mo c es ps) || (decide (b = .sset) && (match ps with
      | [.Call (.Name y _) [pa] [] _] => decide (x = "sorted") && decide (y = "set") && bltC c x && bltC c y && plainX pa && chkEs mo c es [pa]
      | _ => false)) || (decide (b = .dzip) && (match ps with
      | [.Call (.Name y _) [pa, pb] [] _] => decide (x = "dict") && decide (y = "zip") && bltC c x && bltC c y && plainX pa && plainX pb && chkEs mo c es [pa, pb]
      | _ => false))
    | _ => false)
  | .isi a one ts, pe => (match pe with
    | .Call (.Name x _) [pa, pt] [] _ => decide (x = "isinstance") && bltC c x && plainX pa && tysG c ts && fitLen ts.length && chkE mo c a pa && (match one, pt with
      | true, .Name _ _ => tysC ts [pt]
      | false, .Tuple qs _ _ => tysC ts qs
      | _, _ => false)
    | _ => false)
  | .mth f a es, pe => (match pe with
    | .Call (.Attribute pa n ap) ps [] pos => baseX pa && (ap.endLine == pos.line) && chkE mo c a pa && chkEs mo c es ps && ps.all plainX && (match f, ps with
      | .append, [_] => decide (n = "append")
      | .extend, [_] => decide (n = "extend")
      | .pop, [] => decide (n = "pop")
      | .popAt, [_] => decide (n = "pop")
      | .get, [_, _] => decide (n = "get")
      | _, _ => false)
    | _ => false)
  | .frz a, pe => chkE mo c a pe
  | .heard g h body, pe => (match pe with
    | .Call (.Name x _) [.Lambda params pb scope _] [] _ => decide (x = Str.ofString g) && glC c x && hasH mo g h && lamP params && LamX.lamSB c.sc scope && chkE mo.low (lamC c scope) body pb
    | _ => false)
  | .comp2 _ el t it cd t1 it1 c1 own own1, pe => (match pe with
    | .ListComp pl [⟨tg, iter, ifs, as⟩, ⟨tg1, iter1, ifs1, as1⟩] scope _ => decide (as = 0) && decide (as1 = 0) && plainX iter && plainX iter1 && chkIt mo c it tg iter && chkIt mo.low (inner c scope) it1 tg1 iter1 && blkC c.N c.sc scope (ownL c own) && decide ((ownL c own).map (·.2) = own) && (t.slots.all fun i => decide (i ∈ own)) && (t1.slots.all fun i => decide (i ∈ own1)) && (own1.all fun i => decide (i ∈ own)) &&
        tgC (inner c scope) t tg && tgC (inner c scope) t1 tg1 && chkC mo.low (inner c scope) cd ifs && chkC mo.low (inner c scope) c1 ifs1 && chkE mo.low (inner c scope) el pl
    | _ => false)
  | .comp _ el t it cd own, pe => (match pe with
    | .ListComp pl [⟨tg, iter, ifs, as⟩] scope _ => decide (as = 0) && plainX iter && chkIt mo c it tg iter && blkC c.N c.sc scope (ownL c own) && decide ((ownL c own).map (·.2) = own) && (t.slots.all fun i => decide (i ∈ own)) &&
        tgC (inner c scope) t tg && chkC mo.low (inner c scope) cd ifs && chkE mo.low (inner c scope) el pl
    | _ => false)
def chkEs (mo : Mo) (c : CC) : Es → List Expr → Bool
  | .nil, ps => (match ps with
    | [] => true
    | _ => false)
  | .cons e es, ps => (match ps with
    | p :: ps => chkE mo c e p && chkEs mo c es ps
    | _ => false)
def chkK (mo : Mo) (c : CC) : Es → List Keyword → Bool
  | .nil, ps => (match ps with
    | [] => true
    | _ => false)
  | .cons e es, ps => (match ps with
    | p :: ps => chkE mo c e p.value && chkK mo c es ps
    | _ => false)
def chkO (mo : Mo) (c : CC) : Oe → Option Expr → Bool
  | .non, p => (match p with
    | none => true
    | _ => false)
  | .som e, p => (match p with
    | some p => chkE mo c e p
    | _ => false)
def chkC (mo : Mo) (c : CC) : Oe → List Expr → Bool
  | .non, p => (match p with
    | [] => true
    | _ => false)
  | .som e, p => (match p with
    | [p] => tstE e && chkE mo c e p
    | _ => false)
def chkIt (mo : Mo) (c : CC) : Z.It → Expr → Expr → Bool
  | .sq e, _, p => chkE mo c e p
  | .rng es, _, p => (match p with
    | .Call (.Name x _) ps [] _ => decide (x = "range") && bltC c x && ps.all plainX && (decide (ps.length = 1) || decide (ps.length = 2)) && chkEs mo c es ps
    | _ => false)
  | .enm e, tg, p => (match tg, p with
    | .Tuple _ _ _, .Call (.Name x _) [pa] [] _ => decide (x = "enumerate") && bltC c x && plainX pa && chkE mo c e pa
    | _, _ => false)
  | .zip a b, tg, p => (match tg, p with
    | .Tuple _ _ _, .Call (.Name x _) [pa, pb] [] _ => decide (x = "zip") && bltC c x && plainX pa && plainX pb && chkE mo c a pa && chkE mo c b pb
    | _, _ => false)
end
end Z


/-! Z15: the checker of expressions is right. -/
namespace Z
open PySem L2 PySem.Spec PyProof.Rows

section
variable {X : Cx} {ca : String → Addr} {W : WX} {C : Calls} {mo : Mo} {c : CC}
theorem glC_ok (cc : CcOk X c) {x : Str} (h : glC c x = true) : Gl X x ∧ (x == ("__debug__" : Str)) = false := by
  unfold glC dbgC at h
  simp only [Bool.and_eq_true, decide_eq_true_eq, Bool.not_eq_true'] at h
  refine ⟨?_, h.2.1⟩
  show X.env.scope.names.lookup x = _
  rw [cc.sc]; exact h.1
theorem bltC_ok (cc : CcOk X c) (mk : MoOk X ca C mo) {x : Str} (h : bltC c x = true) : Gl X x ∧ X.mg x = none := by
  unfold bltC at h
  rw [Bool.and_eq_true] at h
  exact ⟨(glC_ok cc h.1).1, mk.bl x (of_decide_eq_true h.2)⟩
theorem hasF_ok (mk : MoOk X ca C mo) {f : String} {k : Option (List Str)} (h : hasF mo f k = true) : FnZ X ca C f (Str.ofString f) k := by
  unfold hasF at h
  rw [List.any_eq_true] at h
  obtain ⟨p, hp, h⟩ := h
  rw [Bool.and_eq_true] at h
  have e1 : p.1 = f := of_decide_eq_true h.1
  have e2 : p.2 = k := of_decide_eq_true h.2
  have r := mk.fs p hp
  rw [e1, e2] at r
  exact r
theorem hasG_ok (mk : MoOk X ca C mo) {g : String} {d : D} (h : hasG mo g d = true) : ∃ v u, X.mg (Str.ofString g) = some u ∧ RelV v u ∧ ∀ H al ρ, RD X.K H al ρ d v := by
  unfold hasG at h
  rw [List.any_eq_true] at h
  obtain ⟨p, hp, h⟩ := h
  rw [Bool.and_eq_true] at h
  have e1 : p.1 = g := of_decide_eq_true h.1
  have r := mk.gl p hp
  rw [e1, same_eq h.2] at r
  exact r
theorem hasH_ok (mk : MoOk X ca C mo) {g : String} {hf : HF} (h : hasH mo g hf = true) : mo.hs ≠ [] ∧ HeardK X.prog X.K X.mg ca g hf := by
  unfold hasH at h
  rw [List.any_eq_true] at h
  obtain ⟨p, hp, h⟩ := h
  rw [Bool.and_eq_true] at h
  have e1 : p.1 = g := of_decide_eq_true h.1
  have e2 : p.2 = hf := of_decide_eq_true h.2
  have r := mk.hs p hp
  rw [e1, e2] at r
  exact ⟨(fun e => by rw [e] at hp; cases hp), r⟩
theorem tysG_ok (cc : CcOk X c) (mk : MoOk X ca C mo) {ts : List Ty} (h : tysG c ts = true) : ∀ t ∈ ts, Gl X (tyN t) ∧ X.mg (tyN t) = none := by
  unfold tysG at h
  rw [List.all_eq_true] at h
  exact fun t ht => bltC_ok cc mk (h t ht)
theorem visC_ok (cc : CcOk X c) {x : Str} (h : visC c x = true) : Vis X.env.scope x := by
  unfold visC at h
  rw [cc.sc]
  split at h
  · rename_i e; exact .inl e
  · rename_i e; exact .inr (.inl e)
  · rename_i e; exact .inr (.inr e)
  · cases h
theorem inner_cc (cc : CcOk X c) (s : Shared) (H : Hp) (scope : Scope) (D : Addr) (cl : List (Str × Addr)) (fp : List Addr) : CcOk (X.blk s H scope (compEnvC scope cl D X.env) fp) (inner c scope) :=
  ⟨cc.N, by unfold inner; rw [← cc.sc]; rfl, rfl, cc.nd⟩
theorem inner_mo (mk : MoOk X ca C mo) (s : Shared) (H : Hp) (scope : Scope) (D : Addr) (cl : List (Str × Addr)) (fp : List Addr) : MoOk (X.blk s H scope (compEnvC scope cl D X.env) fp) ca C mo.low := ⟨mk.calm, mk.un, mk.gl, mk.fs, mk.bl, fun h => absurd rfl h, (fun _ h => by cases h), ⟨(fun _ h => by cases h), (fun _ h => by cases h)⟩, fun h => absurd rfl h⟩
theorem takesW0 : Takes X W0 := by
  intro u s' x
  obtain ⟨_, _, _, _, _, _, _, _, _, _, _, _, _, _, _, _, z⟩ := x
  exact z.elim
def PEt (X : Cx) (ca : String → Addr) (W : WX) (C : Calls) (e : E) (pe : Expr) : Prop := PE X pe (zE X ca W C e) ∧ (tstE e = true → PT X pe (zT X ca W C e))
theorem PEt.val {e : E} {pe : Expr} (h : PE X pe (zE X ca W C e)) (t : testX pe = true) : PEt X ca W C e pe := ⟨h, fun _ => zt_val h t⟩
theorem PEt.ite {e : E} {pe : Expr} (h : PE X pe (zE X ca W C e)) (t : tstE e = false) : PEt X ca W C e pe := ⟨h, fun h' => by rw [t] at h'; cases h'⟩
structure EsOk (X : Cx) (ca : String → Addr) (W : WX) (C : Calls) (es : Es) (ps : List Expr) : Prop where
  pa : ps.all plainX = true → PA X ps (zEs X ca W C es)
  nil : ps = [] → es = .nil
  len : es.len = ps.length
  boo : ∀ (k : Bool) (pos : Pos), ps ≠ [] → PE X (.BoolOp (bopB k) ps pos) (zB X ca W C k es) ∧ (tstEs es = true → PW X (.BoolOp (bopB k) ps pos) (zBT X ca W C k es))
  one : ∀ p, ps = [p] → ∃ a, es = .cons a .nil ∧ PEt X ca W C a p
  two : ∀ p q, ps = [p, q] → ∃ a b, es = .cons a (.cons b .nil) ∧ PEt X ca W C a p ∧ PEt X ca W C b q
end
mutual
theorem chkE_ok {ca : String → Addr} {C : Calls} : ∀ (e : E) {mo : Mo} {X : Cx} {W : WX} {c : CC} {pe : Expr}, CcOk X c → MoOk X ca C mo → Takes X W → chkE mo c e pe = true → PEt X ca W C e pe
  | .nvr, mo, X, W, c, pe, cc, mk, tk, h => ⟨⟨fun _ _ _ _ _ _ ⟨_, _, _, _, _, f⟩ => by dsimp only [evE] at f; exact f.elim⟩, fun _ => ⟨fun _ _ _ _ _ _ ⟨_, _, _, _, _, f⟩ => by dsimp only [evE] at f; exact f.elim⟩⟩
  | .var i, mo, X, W, c, pe, cc, mk, tk, h => by
    unfold chkE at h
    split at h <;> try (cases h; done)
    rename_i x p
    unfold dbgC at h
    simp only [Bool.and_eq_true, decide_eq_true_eq, Bool.not_eq_true'] at h
    exact .val (z_var (by rw [cc.N]; exact h.1.1) (visC_ok cc h.1.2) h.2.1 h.2.2) rfl
  | .cst d, mo, X, W, c, pe, cc, mk, tk, h => by
    unfold chkE at h
    split at h <;> try (cases h; done)
    · rw [of_decide_eq_true h]; exact .val z_int rfl
    · rw [of_decide_eq_true h]; exact .val z_bl rfl
    · exact .val z_non rfl
    · rw [of_decide_eq_true h]; exact .val z_str rfl
  | .gl g d, mo, X, W, c, pe, cc, mk, tk, h => by
    unfold chkE at h
    split at h <;> try (cases h; done)
    rename_i x p
    simp only [Bool.and_eq_true, decide_eq_true_eq] at h
    obtain ⟨⟨rfl, h2⟩, h3⟩ := h
    obtain ⟨h4, h5⟩ := glC_ok cc h2
    obtain ⟨v, u, h6, h7, h8⟩ := hasG_ok mk h3
    exact .val (z_gl h4 h6 h7 h8 h5) rfl
  | .bin op a b, mo, X, W, c, pe, cc, mk, tk, h => by
    unfold chkE at h
    split at h <;> try (cases h; done)
    simp only [Bool.and_eq_true, decide_eq_true_eq] at h
    obtain ⟨⟨rfl, h2⟩, h3⟩ := h
    exact .val (z_bin (chkE_ok a cc mk tk h2).1 (chkE_ok b cc mk tk h3).1) rfl
  | .neg a, mo, X, W, c, pe, cc, mk, tk, h => by
    unfold chkE at h
    split at h <;> try (cases h; done)
    simp only [Bool.and_eq_true, decide_eq_true_eq] at h
    obtain ⟨rfl, h2⟩ := h
    exact .val (z_neg (chkE_ok a cc mk tk h2).1) rfl
  | .cmp op a b, mo, X, W, c, pe, cc, mk, tk, h => by
    unfold chkE at h
    split at h <;> try (cases h; done)
    simp only [Bool.and_eq_true, decide_eq_true_eq] at h
    obtain ⟨⟨⟨rfl, h1⟩, h2⟩, h3⟩ := h
    exact ⟨z_cmp mk.un (chkE_ok a cc mk tk h2).1 (chkE_ok b cc mk tk h3).1 h1, fun _ => zt_cmp mk.un (chkE_ok a cc mk tk h2).1 (chkE_ok b cc mk tk h3).1 h1⟩
  | .chain o1 o2 a b d, mo, X, W, c, pe, cc, mk, tk, h => by
    unfold chkE at h
    split at h <;> try (cases h; done)
    simp only [Bool.and_eq_true, decide_eq_true_eq] at h
    obtain ⟨⟨⟨⟨⟨rfl, rfl⟩, h1⟩, h2⟩, h3⟩, h4⟩ := h
    exact ⟨z_chain mk.un (chkE_ok a cc mk tk h2).1 (chkE_ok b cc mk tk h3).1 (chkE_ok d cc mk tk h4).1 h1, fun _ => zt_chain mk.un (chkE_ok a cc mk tk h2).1 (chkE_ok b cc mk tk h3).1 (chkE_ok d cc mk tk h4).1 h1⟩
  | .isN g a, mo, X, W, c, pe, cc, mk, tk, h => by
    unfold chkE at h
    split at h <;> try (cases h; done)
    simp only [Bool.and_eq_true, decide_eq_true_eq] at h
    obtain ⟨⟨rfl, rfl⟩, h2⟩ := h
    have ih := (chkE_ok a cc mk tk h2).1
    cases g with
    | false => exact ⟨z_isN ih, fun _ => zt_isN ih⟩
    | true => exact ⟨z_notN ih, fun _ => zt_notN ih⟩
  | .isB g b a, mo, X, W, c, pe, cc, mk, tk, h => by
    unfold chkE at h
    split at h <;> try (cases h; done)
    simp only [Bool.and_eq_true, decide_eq_true_eq] at h
    obtain ⟨⟨rfl, rfl⟩, h2⟩ := h
    have ih := (chkE_ok a cc mk tk h2).1
    cases g with
    | false => exact ⟨z_isB ih, fun _ => zt_isB ih⟩
    | true => exact ⟨z_notB ih, fun _ => zt_notB ih⟩
  | .boo k es, mo, X, W, c, pe, cc, mk, tk, h => by
    unfold chkE at h
    split at h <;> try (cases h; done)
    rename_i o ps pos
    simp only [Bool.and_eq_true, decide_eq_true_eq] at h
    obtain ⟨⟨rfl, h1⟩, h2⟩ := h
    obtain ⟨g1, g2⟩ := (chkEs_ok es cc mk tk h2).boo k pos h1
    refine ⟨?_, fun ht => ?_⟩
    · exact pe_imp g1 fun σ H Q ⟨ρ, env, M, rp, re, f⟩ => ⟨ρ, env, M, rp, re, by dsimp only [evE] at f; exact f⟩
    · exact pt_imp (g2 (by unfold tstE at ht; exact ht)).pt fun σ H Q ⟨ρ, env, M, rp, re, f⟩ => ⟨ρ, env, M, rp, re, by dsimp only [evE] at f; exact f⟩
  | .not a, mo, X, W, c, pe, cc, mk, tk, h => by
    unfold chkE at h
    split at h <;> try (cases h; done)
    simp only [Bool.and_eq_true, decide_eq_true_eq] at h
    obtain ⟨rfl, h2⟩ := h
    have ih := chkE_ok a cc mk tk h2
    exact ⟨z_not ih.1, fun ht => zt_not (ih.2 (by unfold tstE at ht; exact ht))⟩
  | .ite d a b, mo, X, W, c, pe, cc, mk, tk, h => by
    unfold chkE at h
    split at h <;> try (cases h; done)
    simp only [Bool.and_eq_true, decide_eq_true_eq] at h
    obtain ⟨⟨⟨h1, h2⟩, h3⟩, h4⟩ := h
    exact .ite (z_ite ((chkE_ok d cc mk tk h2).2 h1) (chkE_ok a cc mk tk h3).1 (chkE_ok b cc mk tk h4).1) (by unfold tstE; rfl)
  | .tup es, mo, X, W, c, pe, cc, mk, tk, h => by
    unfold chkE at h
    split at h <;> try (cases h; done)
    simp only [Bool.and_eq_true, decide_eq_true_eq] at h
    exact .val (z_tup h.1.1 ((chkEs_ok es cc mk tk h.2).pa h.1.2)) rfl
  | .tstar a b, mo, X, W, c, pe, cc, mk, tk, h => by
    unfold chkE at h
    split at h <;> try (cases h; done)
    simp only [Bool.and_eq_true, decide_eq_true_eq] at h
    exact .val (z_tstar h.1.1 (chkE_ok a cc mk tk h.1.2).1 (chkE_ok b cc mk tk h.2).1) rfl
  | .lst m es, mo, X, W, c, pe, cc, mk, tk, h => by
    unfold chkE at h
    split at h <;> try (cases h; done)
    simp only [Bool.and_eq_true, decide_eq_true_eq] at h
    exact .val (z_lst h.1.1 ((chkEs_ok es cc mk tk h.2).pa h.1.2)) rfl
  | .dic0, mo, X, W, c, pe, cc, mk, tk, h => by
    unfold chkE at h
    split at h <;> try (cases h; done)
    exact .val z_dic0 rfl
  | .idx a i, mo, X, W, c, pe, cc, mk, tk, h => by
    unfold chkE at h
    split at h <;> try (cases h; done)
    simp only [Bool.and_eq_true, decide_eq_true_eq] at h
    exact .val (z_idx (by have := mk.un; omega) (chkE_ok a cc mk tk h.1.2).1 (chkE_ok i cc mk tk h.2).1 h.1.1) rfl
  | .slc m a lo hi, mo, X, W, c, pe, cc, mk, tk, h => by
    unfold chkE at h
    split at h <;> try (cases h; done)
    simp only [Bool.and_eq_true, decide_eq_true_eq] at h
    exact .val (z_slc (chkE_ok a cc mk tk h.1.1).1 (chkO_ok lo cc mk tk h.1.2) (chkO_ok hi cc mk tk h.2)) rfl
  | .rev m a, mo, X, W, c, pe, cc, mk, tk, h => by
    unfold chkE at h
    split at h <;> try (cases h; done)
    simp only [Bool.and_eq_true, decide_eq_true_eq] at h
    obtain ⟨⟨rfl, rfl⟩, h2⟩ := h
    exact .val (z_rev (chkE_ok a cc mk tk h2).1) rfl
  | .call f es, mo, X, W, c, pe, cc, mk, tk, h => by
    unfold chkE at h
    split at h <;> try (cases h; done)
    simp only [Bool.and_eq_true, decide_eq_true_eq] at h
    obtain ⟨⟨⟨⟨rfl, h1⟩, h2⟩, h3⟩, h4⟩ := h
    have ih := chkEs_ok es cc mk tk h4
    obtain ⟨g1, g2⟩ := glC_ok cc h1
    exact .val (z_call tk (hasF_ok mk h2) g1 g2 h3 (ih.pa h3) ih.nil) rfl
  | .callk f es ks kes, mo, X, W, c, pe, cc, mk, tk, h => by
    unfold chkE at h
    split at h <;> try (cases h; done)
    rename_i x _ ps kws _
    simp only [Bool.and_eq_true, decide_eq_true_eq] at h
    obtain ⟨⟨⟨⟨⟨⟨rfl, h1⟩, h2⟩, h3⟩, h4⟩, h5⟩, h6⟩ := h
    have ih := chkEs_ok es cc mk tk h4
    obtain ⟨k1, k2⟩ := chkK_ok kes cc mk tk h5
    obtain ⟨g1, g2⟩ := glC_ok cc h1
    have hlen : kws.length = ks.length := by have := congrArg List.length h6; simpa using this
    have hs : kws.all (·.arg.isSome) = true := by
      rw [List.all_eq_true]
      intro q hq
      have : q.arg ∈ kws.map (·.arg) := List.mem_map_of_mem hq
      rw [h6] at this
      obtain ⟨y, _, hy⟩ := List.mem_map.mp this
      rw [← hy]; rfl
    have hn : kws.filterMap (·.arg) = ks.map Str.ofString := by
      have e : kws.filterMap (·.arg) = (kws.map (·.arg)).filterMap id := by rw [List.filterMap_map]; rfl
      rw [e, h6]
      clear h6 hlen h2
      induction ks with
      | nil => rfl
      | cons y r ih2 => rw [List.map_cons, List.filterMap_cons]; simp only [id]; rw [ih2, List.map_cons]
    exact .val (z_callk tk (hasF_ok mk h2) g1 g2 h3 (ih.pa h3) ih.nil k1 hs hn (by rw [k2, hlen, List.length_map])) rfl
  | .bi b m es, mo, X, W, c, pe, cc, mk, tk, h => by
    unfold chkE at h
    split at h <;> try (cases h; done)
    rename_i x _ ps _
    rw [Bool.or_eq_true, Bool.or_eq_true] at h
    rcases h with (h | h) | h
    · simp only [Bool.and_eq_true, Bool.not_eq_true', decide_eq_true_eq] at h
      obtain ⟨⟨⟨⟨⟨h1, rfl⟩, h2⟩, h3⟩, h4⟩, h5⟩ := h
      obtain ⟨g1, g2⟩ := bltC_ok cc mk h2
      exact .val (z_bi mk.calm g1 g2 h1 h4 ((chkEs_ok es cc mk tk h5).pa h4) h3) rfl
    · rw [Bool.and_eq_true] at h
      obtain ⟨h0, h⟩ := h
      split at h <;> try (cases h; done)
      rename_i y _ pa _
      simp only [Bool.and_eq_true, decide_eq_true_eq] at h h0
      subst h0
      obtain ⟨⟨⟨⟨⟨rfl, rfl⟩, h2⟩, h3⟩, h4⟩, h5⟩ := h
      obtain ⟨g1, g2⟩ := bltC_ok cc mk h2
      obtain ⟨g3, g4⟩ := bltC_ok cc mk h3
      obtain ⟨a, rfl, ih⟩ := (chkEs_ok es cc mk tk h5).one _ rfl
      exact .val (z_sset mk.calm g1 g2 g3 g4 ih.1 h4) rfl
    · rw [Bool.and_eq_true] at h
      obtain ⟨h0, h⟩ := h
      split at h <;> try (cases h; done)
      rename_i y _ pa pb _
      simp only [Bool.and_eq_true, decide_eq_true_eq] at h h0
      subst h0
      obtain ⟨⟨⟨⟨⟨⟨rfl, rfl⟩, h2⟩, h3⟩, h4⟩, h5⟩, h6⟩ := h
      obtain ⟨g1, g2⟩ := bltC_ok cc mk h2
      obtain ⟨g3, g4⟩ := bltC_ok cc mk h3
      have ih := chkEs_ok es cc mk tk h6
      have hp : [pa, pb].all plainX = true := by rw [List.all_cons, List.all_cons, h4, h5]; rfl
      exact .val (z_dzip mk.calm g1 g2 g3 g4 (ih.pa hp) hp) rfl
  | .isi a one ts, mo, X, W, c, pe, cc, mk, tk, h => by
    unfold chkE at h
    split at h <;> try (cases h; done)
    rename_i x _ pa pt _
    simp only [Bool.and_eq_true, decide_eq_true_eq] at h
    obtain ⟨⟨⟨⟨⟨⟨rfl, h1⟩, h2⟩, h3⟩, h4⟩, h5⟩, h6⟩ := h
    obtain ⟨g1, g2⟩ := bltC_ok cc mk h1
    have ih := (chkE_ok a cc mk tk h5).1
    have gt := tysG_ok cc mk h3
    split at h6 <;> try (cases h6; done)
    · match ts, h6 with
      | [], h6 => unfold tysC at h6; cases h6
      | [t], h6 =>
        unfold tysC at h6
        simp only [Bool.and_eq_true, decide_eq_true_eq] at h6
        obtain ⟨⟨rfl, h7⟩, _⟩ := h6
        obtain ⟨k1, k2⟩ := gt t List.mem_cons_self
        exact .val (z_isi1 g1 g2 k1 k2 h7 ih h2) rfl
      | _ :: _ :: _, h6 => unfold tysC at h6; rw [Bool.and_eq_true] at h6; exact absurd h6.2 (by unfold tysC; simp)
    · exact .val (z_isiT g1 g2 gt h6 h4 ih h2) rfl
  | .mth f a es, mo, X, W, c, pe, cc, mk, tk, h => by
    unfold chkE at h
    split at h <;> try (cases h; done)
    rename_i pa n ap ps pos
    simp only [Bool.and_eq_true] at h
    obtain ⟨⟨⟨⟨⟨h1, h2⟩, h3⟩, h4⟩, h5⟩, h6⟩ := h
    have ih := (chkE_ok a cc mk tk h3).1
    have ihs := chkEs_ok es cc mk tk h4
    split at h6 <;> try (cases h6; done)
    · rw [of_decide_eq_true h6]
      obtain ⟨b, rfl, ib⟩ := ihs.one _ rfl
      rw [List.all_cons, Bool.and_eq_true] at h5
      exact .val (z_append ih h1 h5.1 ib.1 h2) rfl
    · rw [of_decide_eq_true h6]
      obtain ⟨b, rfl, ib⟩ := ihs.one _ rfl
      rw [List.all_cons, Bool.and_eq_true] at h5
      exact .val (z_extend ih h1 h5.1 ib.1 h2) rfl
    · rw [of_decide_eq_true h6]
      cases ihs.nil rfl
      exact .val (z_pop ih h1 h2) rfl
    · rw [of_decide_eq_true h6]
      obtain ⟨b, rfl, ib⟩ := ihs.one _ rfl
      rw [List.all_cons, Bool.and_eq_true] at h5
      exact .val (z_popAt ih h1 h5.1 ib.1 h2) rfl
    · rw [of_decide_eq_true h6]
      obtain ⟨b, d, rfl, ib, id'⟩ := ihs.two _ _ rfl
      rw [List.all_cons, Bool.and_eq_true, List.all_cons, Bool.and_eq_true] at h5
      exact .val (z_get (by have := mk.un; omega) ih h1 h5.1 h5.2.1 ib.1 id'.1 h2) rfl
  | .frz a, mo, X, W, c, pe, cc, mk, tk, h => by
    unfold chkE at h
    exact .ite (z_frz (chkE_ok a cc mk tk h).1) (by unfold tstE; rfl)
  | .heard g hf body, mo, X, W, c, pe, cc, mk, tk, h => by
    unfold chkE at h
    split at h <;> try (cases h; done)
    rename_i x p params pb scope lpos pos
    simp only [Bool.and_eq_true, decide_eq_true_eq] at h
    obtain ⟨⟨⟨⟨⟨rfl, h1⟩, h2⟩, h3⟩, h4⟩, h5⟩ := h
    obtain ⟨g1, g2⟩ := glC_ok cc h1
    obtain ⟨hne, hk⟩ := hasH_ok mk h2
    obtain ⟨⟨lv, hfs, hr⟩, TB, hu⟩ := mk.lam hne
    refine .val (z_heard hk g1 g2 TB hu hr (by rw [cc.sc]; exact h4) h3 fun A outer s H E f c' hr' => ?_) rfl
    have cc' : CcOk (LamX.lamCx X A outer s H E scope f c') (lamC c scope) := ⟨cc.N, rfl, rfl, cc.nd⟩
    have mk' : MoOk (LamX.lamCx X A outer s H E scope f c') ca C mo.low := ⟨rfl, room65 hr', mk.gl, fun p hp => ⟨lv, hfs p hp, hr'⟩, mk.bl, fun h => absurd rfl h, (fun _ h => by cases h), ⟨(fun _ h => by cases h), (fun _ h => by cases h)⟩, fun h => absurd rfl h⟩
    exact (chkE_ok body cc' mk' (takes_of rfl rfl rfl rfl) h5).1
  | .comp2 m el t it cd t1 it1 c1 own own1, mo, X, W, c, pe, cc, mk, tk, h => by
    unfold chkE at h
    split at h <;> try (cases h; done)
    rename_i pl tg iter ifs as tg1 iter1 ifs1 as1 scope pos
    simp only [Bool.and_eq_true, decide_eq_true_eq] at h
    obtain ⟨⟨⟨⟨⟨⟨⟨⟨⟨⟨⟨⟨⟨⟨⟨rfl, rfl⟩, h1⟩, h2⟩, h3⟩, h4⟩, h5⟩, h6⟩, h7⟩, h8⟩, h9⟩, g1⟩, g2⟩, g3⟩, g4⟩, g5⟩ := h
    rw [List.all_eq_true] at h7 h8 h9
    refine .val (z_comp2 mk.calm cc.nd (chkIt_ok it cc mk tk h3) (ownL := ownL c own) (by rw [cc.N, cc.sc]; exact blkOk_by h5) h6 (fun i hi => of_decide_eq_true (h7 i hi)) (fun i hi => of_decide_eq_true (h8 i hi)) (fun i hi => of_decide_eq_true (h9 i hi)) h1 h2 ?_ ?_ ?_ ?_ ?_ ?_) rfl
    · intro s H D cl fp
      exact pg_z (inner_cc cc s H scope D cl fp) mk.calm g1
    · intro s H D cl fp
      exact chkC_ok cd (inner_cc cc s H scope D cl fp) (inner_mo mk s H scope D cl fp) takesW0 g3
    · intro s H D cl fp
      exact chkIt_ok it1 (inner_cc cc s H scope D cl fp) (inner_mo mk s H scope D cl fp) takesW0 h4
    · intro s H D cl fp
      exact pg_z (inner_cc cc s H scope D cl fp) mk.calm g2
    · intro s H D cl fp
      exact chkC_ok c1 (inner_cc cc s H scope D cl fp) (inner_mo mk s H scope D cl fp) takesW0 g4
    · intro s H D cl fp
      exact (chkE_ok el (inner_cc cc s H scope D cl fp) (inner_mo mk s H scope D cl fp) takesW0 g5).1
  | .comp m el t it cd own, mo, X, W, c, pe, cc, mk, tk, h => by
    unfold chkE at h
    split at h <;> try (cases h; done)
    rename_i pl tg iter ifs as scope pos
    simp only [Bool.and_eq_true, decide_eq_true_eq] at h
    obtain ⟨⟨⟨⟨⟨⟨⟨⟨rfl, h1⟩, h2⟩, h3⟩, h4⟩, h5⟩, h6⟩, h7⟩, h8⟩ := h
    rw [List.all_eq_true] at h5
    refine .val (z_comp mk.calm cc.nd (chkIt_ok it cc mk tk h2) (ownL := ownL c own) (by rw [cc.N, cc.sc]; exact blkOk_by h3) h4 (fun i hi => of_decide_eq_true (h5 i hi)) h1 ?_ ?_ ?_) rfl
    · intro s H D cl fp
      exact pg_z (inner_cc cc s H scope D cl fp) mk.calm h6
    · intro s H D cl fp
      exact chkC_ok cd (inner_cc cc s H scope D cl fp) (inner_mo mk s H scope D cl fp) takesW0 h7
    · intro s H D cl fp
      exact (chkE_ok el (inner_cc cc s H scope D cl fp) (inner_mo mk s H scope D cl fp) takesW0 h8).1
theorem chkEs_ok {ca : String → Addr} {C : Calls} : ∀ (es : Es) {mo : Mo} {X : Cx} {W : WX} {c : CC} {ps : List Expr}, CcOk X c → MoOk X ca C mo → Takes X W → chkEs mo c es ps = true → EsOk X ca W C es ps
  | .nil, mo, X, W, c, ps, cc, mk, tk, h => by
    unfold chkEs at h
    split at h <;> try (cases h; done)
    exact ⟨fun _ => za_nil, fun _ => rfl, rfl, fun _ _ n => absurd rfl n, (by intro _ e; cases e), (by intro _ _ e; cases e)⟩
  | .cons e r, mo, X, W, c, ps, cc, mk, tk, h => by
    unfold chkEs at h
    split at h <;> try (cases h; done)
    rename_i p qs
    rw [Bool.and_eq_true] at h
    have ih := chkE_ok e cc mk tk h.1
    have ihs := chkEs_ok r cc mk tk h.2
    refine ⟨fun hp => ?_, (by intro z; cases z), by rw [Es.len, ihs.len]; rfl, fun k pos _ => ?_, fun p' z => ?_, fun p' q' z => ?_⟩
    · rw [List.all_cons, Bool.and_eq_true] at hp
      exact za_cons hp.1 ih.1 (ihs.pa hp.2)
    · cases qs with
      | nil =>
        cases ihs.nil rfl
        exact ⟨z_boo1 ih.1, fun ht => zw_boo1 (ih.2 (by unfold tstEs at ht; rw [Bool.and_eq_true] at ht; exact ht.1))⟩
      | cons q qs' =>
        obtain ⟨g1, g2⟩ := ihs.boo k pos (by simp)
        cases r with
        | nil => have := ihs.len; cases this
        | cons e2 r2 => exact ⟨z_boo2 ih.1 g1, fun ht => by unfold tstEs at ht; rw [Bool.and_eq_true] at ht; exact zw_boo2 (ih.2 ht.1) (g2 ht.2)⟩
    · cases z
      cases ihs.nil rfl
      exact ⟨e, rfl, ih⟩
    · cases z
      obtain ⟨b, rfl, ib⟩ := ihs.one q' rfl
      exact ⟨e, b, rfl, ih, ib⟩
theorem chkK_ok {ca : String → Addr} {C : Calls} : ∀ (es : Es) {mo : Mo} {X : Cx} {W : WX} {c : CC} {ps : List Keyword}, CcOk X c → MoOk X ca C mo → Takes X W → chkK mo c es ps = true → PK X ps (zEs X ca W C es) ∧ es.len = ps.length
  | .nil, mo, X, W, c, ps, cc, mk, tk, h => by
    unfold chkK at h
    split at h <;> try (cases h; done)
    exact ⟨zk_nil, rfl⟩
  | .cons e r, mo, X, W, c, ps, cc, mk, tk, h => by
    unfold chkK at h
    split at h <;> try (cases h; done)
    rename_i p qs
    obtain ⟨nm, p, kp⟩ := p
    rw [Bool.and_eq_true] at h
    have ih := chkE_ok e cc mk tk h.1
    obtain ⟨g1, g2⟩ := chkK_ok r cc mk tk h.2
    exact ⟨zk_cons ih.1 g1, by rw [Es.len, g2]; rfl⟩
theorem chkO_ok {ca : String → Addr} {C : Calls} : ∀ (o : Oe) {mo : Mo} {X : Cx} {W : WX} {c : CC} {p : Option Expr}, CcOk X c → MoOk X ca C mo → Takes X W → chkO mo c o p = true → PO X p (zO X ca W C o)
  | .non, mo, X, W, c, p, cc, mk, tk, h => by
    unfold chkO at h
    split at h <;> try (cases h; done)
    exact zo_none
  | .som e, mo, X, W, c, p, cc, mk, tk, h => by
    unfold chkO at h
    split at h <;> try (cases h; done)
    exact zo_some (chkE_ok e cc mk tk h).1
theorem chkC_ok {ca : String → Addr} {C : Calls} : ∀ (o : Oe) {mo : Mo} {X : Cx} {W : WX} {c : CC} {p : List Expr}, CcOk X c → MoOk X ca C mo → Takes X W → chkC mo c o p = true → PTs X p (zC X ca W C o)
  | .non, mo, X, W, c, p, cc, mk, tk, h => by
    unfold chkC at h
    split at h <;> try (cases h; done)
    exact pts_non
  | .som e, mo, X, W, c, p, cc, mk, tk, h => by
    unfold chkC at h
    split at h <;> try (cases h; done)
    rw [Bool.and_eq_true] at h
    exact pts_som ((chkE_ok e cc mk tk h.2).2 h.1)
theorem chkIt_ok {ca : String → Addr} {C : Calls} : ∀ (it : Z.It) {mo : Mo} {X : Cx} {W : WX} {c : CC} {tg p : Expr}, CcOk X c → MoOk X ca C mo → Takes X W → chkIt mo c it tg p = true → PI X tg p (zI X ca W C it)
  | .sq e, mo, X, W, c, tg, p, cc, mk, tk, h => by
    unfold chkIt at h
    exact zi_sq (chkE_ok e cc mk tk h).1
  | .rng es, mo, X, W, c, tg, p, cc, mk, tk, h => by
    unfold chkIt at h
    split at h <;> try (cases h; done)
    simp only [Bool.and_eq_true, Bool.or_eq_true, decide_eq_true_eq] at h
    obtain ⟨⟨⟨⟨rfl, h1⟩, h2⟩, h3⟩, h4⟩ := h
    obtain ⟨g1, g2⟩ := bltC_ok cc mk h1
    have ih := chkEs_ok es cc mk tk h4
    exact zi_rng g1 g2 h2 (ih.pa h2) h3 ih.len
  | .enm e, mo, X, W, c, tg, p, cc, mk, tk, h => by
    unfold chkIt at h
    split at h <;> try (cases h; done)
    simp only [Bool.and_eq_true, decide_eq_true_eq] at h
    obtain ⟨⟨⟨rfl, h1⟩, h2⟩, h3⟩ := h
    obtain ⟨g1, g2⟩ := bltC_ok cc mk h1
    exact zi_enm g1 g2 h2 (chkE_ok e cc mk tk h3).1
  | .zip a b, mo, X, W, c, tg, p, cc, mk, tk, h => by
    unfold chkIt at h
    split at h <;> try (cases h; done)
    simp only [Bool.and_eq_true, decide_eq_true_eq] at h
    obtain ⟨⟨⟨⟨⟨rfl, h1⟩, h2⟩, h3⟩, h4⟩, h5⟩ := h
    obtain ⟨g1, g2⟩ := bltC_ok cc mk h1
    exact zi_zip g1 g2 h2 h3 (chkE_ok a cc mk tk h4).1 (chkE_ok b cc mk tk h5).1
end
end Z


/-! Z16: statements. -/
namespace Z
open PySem L2 PySem.Spec PyProof.Rows

def FiS (K : PySem.W.Frag) (ca : String → Addr) (W : WX) (D : Ends) (ρ : Pl) (M : Sto) (H : Hp) (o : Out) : Prop := match o with
  | .ok (.nx env) M' => ∀ ρ' H' σ', Rep K ρ' M' H' → Ext ρ M H ρ' M' H' → RE K ρ' M' H' env σ' → D.nx σ' H'
  | .ok (.brk env) M' => ∀ ρ' H' σ', Rep K ρ' M' H' → Ext ρ M H ρ' M' H' → RE K ρ' M' H' env σ' → D.bk σ' H'
  | .ok (.cnt env) M' => ∀ ρ' H' σ', Rep K ρ' M' H' → Ext ρ M H ρ' M' H' → RE K ρ' M' H' env σ' → D.ct σ' H'
  | .ok (.ret d) M' => ∀ ρ' H' v, Rep K ρ' M' H' → Ext ρ M H ρ' M' H' → RD K H' (Al ρ' M') ρ' d v → D.rt v H'
  | .ok (.exc env c p) M' => ∀ ρ' H' σ' cv dd, Rep K ρ' M' H' → Ext ρ M H ρ' M' H' → RE K ρ' M' H' env σ' → RX K ca H' (Al ρ' M') ρ' c p cv dd → W cv dd σ' H'
  | .fail => False
section
variable {K : PySem.W.Frag} {ca : String → Addr} {W : WX} {D D' : Ends} {ρ ρ1 : Pl} {M M1 : Sto} {H H1 : Hp} {σ : L2.St} {env : En}
theorem FiS.go {o : Out} (x : Ext ρ M H ρ1 M1 H1) (h : FiS K ca W D ρ M H o) : FiS K ca W D ρ1 M1 H1 o := by
  cases o with
  | fail => exact h
  | ok f M' =>
    cases f with
    | nx env => exact fun ρ' H' σ' r y e => h ρ' H' σ' r (x.trans y) e
    | brk env => exact fun ρ' H' σ' r y e => h ρ' H' σ' r (x.trans y) e
    | cnt env => exact fun ρ' H' σ' r y e => h ρ' H' σ' r (x.trans y) e
    | ret d => exact fun ρ' H' v r y e => h ρ' H' v r (x.trans y) e
    | exc env c p => exact fun ρ' H' σ' cv dd r y e q => h ρ' H' σ' cv dd r (x.trans y) e q
theorem FiS.out {α β : Type} {R : Rl α β} {r : Res α} {f : α → Sto → Out} (re : RE K ρ M H env σ) (h : FiS K ca W D ρ M H (r.out env f)) :
    Fi K ca R W σ ρ M H r fun b H1 => ∃ ρ1 M1 a, r = .ok a M1 ∧ Rep K ρ1 M1 H1 ∧ Ext ρ M H ρ1 M1 H1 ∧ R H1 (Al ρ1 M1) ρ1 a b ∧ FiS K ca W D ρ1 M1 H1 (f a M1) := by
  cases r with
  | ok a M' => exact fun ρ' H' b rp x q => ⟨ρ', M', a, rfl, rp, x, q, FiS.go x h⟩
  | exc c p M' => exact fun ρ' H' cv dd rp x q => h ρ' H' σ cv dd rp x (re.ext x) q
  | fail => exact h
theorem FiS.nx {e : En} (rp : Rep K ρ M H) (re : RE K ρ M H e σ) (h : FiS K ca W D ρ M H (.ok (.nx e) M)) : D.nx σ H := h ρ H σ rp .refl re
/-- ends are changed -/
theorem FiS.next {o : Out} {f : En → Sto → Out} (h : FiS K ca W D ρ M H (o.next f)) (h1 : D'.rt = D.rt) (h2 : D'.bk = D.bk) (h3 : D'.ct = D.ct)
    (h4 : ∀ env M1, o = .ok (.nx env) M1 → ∀ ρ' H' σ', Rep K ρ' M1 H' → Ext ρ M H ρ' M1 H' → RE K ρ' M1 H' env σ' → FiS K ca W D ρ' M1 H' (f env M1) → D'.nx σ' H') : FiS K ca W D' ρ M H o := by
  cases o with
  | fail => exact h
  | ok g M' =>
    cases g with
    | nx env => exact fun ρ' H' σ' r y e => h4 env M' rfl ρ' H' σ' r y e (FiS.go y h)
    | brk env => exact fun ρ' H' σ' r y e => by rw [h2]; exact h ρ' H' σ' r y e
    | cnt env => exact fun ρ' H' σ' r y e => by rw [h3]; exact h ρ' H' σ' r y e
    | ret d => exact fun ρ' H' v r y e => by rw [h1]; exact h ρ' H' v r y e
    | exc env c p => exact h
end
abbrev zS (X : Cx) (ca : String → Addr) (W : WX) (C : Calls) (s : S) : TS := fun D σ H => ∃ ρ env M, Rep X.K ρ M H ∧ RE X.K ρ M H env σ ∧ FiS X.K ca W D ρ M H (evS C s env M)
abbrev zSs (X : Cx) (ca : String → Addr) (W : WX) (C : Calls) (s : Ss) : TS := fun D σ H => ∃ ρ env M, Rep X.K ρ M H ∧ RE X.K ρ M H env σ ∧ FiS X.K ca W D ρ M H (evSs C s env M)
theorem pss_imp {X : Cx} {st : List Stmt} {t u : TS} (h : PSs X st t) (i : ∀ D σ H, u D σ H → t D σ H) : PSs X st u := ⟨fun pins s σ H D I q => h.run pins s σ H D I (i _ _ _ q)⟩
section
variable {X : Cx} {ca : String → Addr} {W : WX} {C : Calls} {c : CC} {a b e : E} {pa pb pe : Expr} {pos p p1 p2 p3 p4 p5 : Pos} {t : Tg} {i : Nat} {x y : Str}
theorem zss_nil : PSs X [] (zSs X ca W C .nil) := pss_imp pss_nil fun D σ H ⟨ρ, env, M, rp, re, f⟩ => by
  dsimp only [evSs] at f
  exact f.nx rp re
theorem zss_cons {s : S} {r : Ss} {ps : Stmt} {rs : List Stmt} (h1 : PS X ps (zS X ca W C s)) (h2 : PSs X rs (zSs X ca W C r)) : PSs X (ps :: rs) (zSs X ca W C (.cons s r)) := by
  refine pss_imp (pss_cons h1 h2) fun D σ H ⟨ρ, env, M, rp, re, f⟩ => ⟨ρ, env, M, rp, re, ?_⟩
  dsimp only [evSs] at f
  exact f.next rfl rfl rfl fun env1 M1 _ ρ' H' σ' r' _ e' f' => ⟨ρ', env1, M1, r', e', f'⟩
theorem zs_ex (he : PE X pe (zE X ca W C e)) (hx : compX pe = false) : PS X (.Expr pe pos) (zS X ca W C (.ex e)) := by
  refine ps_imp (ps_expr he (swaps_plain hx)) fun D σ H ⟨ρ, env, M, rp, re, f⟩ => ⟨ρ, env, M, rp, re, ?_⟩
  dsimp only [evS] at f
  refine (f.out (R := rDD X.K) re).imp ?_
  rintro v H1 ⟨ρ1, M1, d1, _, rp1, x1, q1, f1⟩
  exact f1.nx rp1 (re.ext x1)
/-- behind a target -/
theorem asg_go {te : TE} (hte : te = zE X ca W C e) {g : TG} {P : L2.St → Prop} (hg : ∀ v σ H Q, zG X.K t v σ H Q → g v σ H Q) : ∀ D σ H, zS X ca W C (.asg t e) D σ H → tAsg te g D σ H := by
  intro D σ H ⟨ρ, env, M, rp, re, f⟩
  subst hte
  dsimp only [evS] at f
  refine ⟨ρ, env, M, rp, re, (f.out (R := rDD X.K) re).imp ?_⟩
  rintro v H1 ⟨ρ1, M1, d1, _, rp1, x1, q1, f1⟩
  cases he : asgD t d1 env with
  | none => rw [he] at f1; exact f1.elim
  | some env1 =>
    rw [he] at f1
    exact hg _ _ _ _ ⟨ρ1, env, M1, d1, env1, rp1, re.ext x1, q1, he, fun σ1 re1 _ => f1.nx rp1 re1⟩
theorem gname_z {K : PySem.W.Frag} : ∀ v σ H Q, zG K (.n i) v σ H Q → gName i v σ H Q := by
  intro v σ H Q ⟨ρ, env, M, d, env1, rp, re, q, e, k⟩
  cases e
  exact k _ (re.set i q) fun own ho => wipe_set (ho i List.mem_cons_self)
theorem zs_asg (he : PE X pe (zE X ca W C e)) (hx : compX pe = false) {tg : Expr} (hg : PG X tg (zG X.K t)) (hw : swappedStores [tg] pe X.env = pure none) (h1 : (assignEach [tg] X.env).map (·.2) = [assign tg X.env]) : PS X (.Assign [tg] pe pos) (zS X ca W C (.asg t e)) :=
  ps_imp (ps_asg he hg (swaps_plain hx) hw h1) (asg_go (P := fun _ => True) rfl fun _ _ _ _ h => h)
theorem zs_set (cc : CcOk X c) (he : PE X pe (zE X ca W C e)) (hx : swapsWith pe (some (.Name x p)) pos.line X.env = pure false) (h : nameC c i x = true) : PS X (.Assign [.Name x p] pe pos) (zS X ca W C (.asg (.n i) e)) := by
  unfold nameC at h
  rw [Bool.and_eq_true] at h
  obtain ⟨h1, h2⟩ := locC_ok cc h.2
  exact ps_imp (ps_set cc.nd (by rw [cc.N]; exact of_decide_eq_true h.1) h1 he hx h2) (asg_go (P := fun _ => True) rfl gname_z)
/-- a, b = x, y -/
theorem zs_par {e2 : E} {j : Nat} {k k2 : Nat} (cc : CcOk X c) (hc : X.calm = true) (ha : PA X [pa, pb] (zEs X ca W C (.cons a (.cons b .nil)))) (h1 : nameC c i x = true) (h2 : nameC c j y = true) (l1 : c.sc.names.lookup x = some .local) (l2 : c.sc.names.lookup y = some .local) (hij : i ≠ j)
    (hw : swappedStores [.Tuple [.Name x p1, .Name y p2] k p3] (.Tuple [pa, pb] k2 p4) X.env = pure (some [x, y])) : PS X (.Assign [.Tuple [.Name x p1, .Name y p2] k p3] (.Tuple [pa, pb] k2 p4) pos) (zS X ca W C (.asg (.t [i, j]) (.tup (.cons a (.cons b .nil))))) := by
  unfold nameC at h1 h2
  rw [Bool.and_eq_true] at h1 h2
  refine ps_imp (ps_par hc cc.nd (by rw [cc.N]; exact of_decide_eq_true h1.1) (by rw [cc.N]; exact of_decide_eq_true h2.1) hij (by rw [cc.sc]; exact l1) (by rw [cc.sc]; exact l2) ha hw rfl) fun D σ H ⟨ρ, env, M, rp, re, f⟩ => ?_
  dsimp only [evS] at f
  rw [show evE C (.tup (.cons a (.cons b .nil))) env M = (evEs C (.cons a (.cons b .nil)) env M).bind fun xs M1 => .ok (.tup xs) M1 from by rw [evE]] at f
  have f' : FiS X.K ca W D ρ M H ((evEs C (.cons a (.cons b .nil)) env M).out env fun xs M1 => match asgD (.t [i, j]) (.tup xs) env with
    | some env1 => .ok (.nx env1) M1
    | none => .fail) := by
    cases h : evEs C (.cons a (.cons b .nil)) env M <;> (rw [h] at f; exact f)
  refine ⟨ρ, env, M, rp, re, (f'.out (R := rDs X.K) re).imp ?_⟩
  rintro vs H1 ⟨ρ1, M1, d1, e1, rp1, x1, q1, f1⟩
  have hl := evEs_len e1
  match d1, hl, q1, f1 with
  | [d, d'], _, q1, f1 =>
    obtain ⟨v, w, rfl, k1, k2⟩ := q1.two
    exact ⟨v, w, rfl, f1.nx rp1 (((re.ext x1).set i k1).set j k2)⟩
theorem zs_ret (he : PE X pe (zE X ca W C e)) : PS X (.Return (some pe) pos) (zS X ca W C (.ret (.som e))) := by
  refine ps_imp (ps_ret he) fun D σ H ⟨ρ, env, M, rp, re, f⟩ => ⟨ρ, env, M, rp, re, ?_⟩
  dsimp only [evS] at f
  refine (f.out (R := rDD X.K) re).imp ?_
  rintro v H1 ⟨ρ1, M1, d1, _, rp1, x1, q1, f1⟩
  exact f1 ρ1 H1 v rp1 .refl q1
theorem zs_retN : PS X (.Return none pos) (zS X ca W C (.ret .non)) := by
  refine ps_imp ps_retN fun D σ H ⟨ρ, env, M, rp, re, f⟩ => ?_
  dsimp only [evS] at f
  exact f ρ H .non rp .refl .non
theorem zs_pass : PS X (.Pass pos) (zS X ca W C .pas) := ps_imp ps_pass fun D σ H ⟨ρ, env, M, rp, re, f⟩ => by
  dsimp only [evS] at f
  exact f.nx rp re
theorem zs_break : PS X (.Break pos) (zS X ca W C .brk) := ps_imp ps_break fun D σ H ⟨ρ, env, M, rp, re, f⟩ => by
  dsimp only [evS] at f
  exact f ρ H σ rp .refl re
theorem zs_cont : PS X (.Continue pos) (zS X ca W C .cnt) := ps_imp ps_continue fun D σ H ⟨ρ, env, M, rp, re, f⟩ => by
  dsimp only [evS] at f
  exact f ρ H σ rp .refl re
theorem zs_nvr {st : Stmt} : PS X st (zS X ca W C .nvr) := ps_imp ps_never fun D σ H ⟨ρ, env, M, rp, re, f⟩ => by
  dsimp only [evS] at f
  exact f.elim
theorem zs_if {s1 s2 : Ss} {b1 b2 : List Stmt} (hc : PT X pe (zT X ca W C e)) (h1 : PSs X b1 (zSs X ca W C s1)) (h2 : PSs X b2 (zSs X ca W C s2)) : PS X (.If pe b1 b2 pos) (zS X ca W C (.iff e s1 s2)) := by
  refine ps_imp (ps_if hc h1 h2) fun D σ H ⟨ρ, env, M, rp, re, f⟩ => ⟨ρ, env, M, rp, re, ?_⟩
  dsimp only [evS] at f
  have f' : FiS X.K ca W D ρ M H (((evE C e env M).bind fun x M1 => ofO (asB x) M1).out env fun k M1 => if k then evSs C s1 env M1 else evSs C s2 env M1) := by
    cases h : evE C e env M with
    | ok d M1 =>
      rw [h] at f
      cases d <;> first | exact f.elim | skip
      rename_i k
      cases k <;> exact f
    | exc _ _ _ => rw [h] at f; exact f
    | fail => rw [h] at f; exact f
  refine (f'.out (R := rId) re).imp ?_
  rintro k H1 ⟨ρ1, M1, k', _, rp1, x1, q1, f1⟩
  cases q1
  cases k with
  | true => rw [if_pos rfl] at f1 ⊢; exact ⟨ρ1, env, M1, rp1, re.ext x1, f1⟩
  | false => rw [if_neg (by decide)] at f1 ⊢; exact ⟨ρ1, env, M1, rp1, re.ext x1, f1⟩
theorem whl_ok {cnd : En → Sto → Res Z.D} {bd : En → Sto → Out} {env : En} {M : Sto} (h : whlGo cnd bd env M ≠ .fail) : ∃ n, whlGo cnd bd env M = whlN cnd bd n env M := by
  unfold whlGo at h ⊢
  split at h
  · rename_i hh
    rw [dif_pos hh]
    exact ⟨_, rfl⟩
  · exact absurd rfl h
theorem zs_while {bs : Ss} {pb : List Stmt} (hp : PassesOwn (model X.prog X.w) X.A X.env X.xe) (hc : PT X pe (zT X ca W C e)) (hb : PSs X pb (zSs X ca W C bs)) : PS X (.While pe pb [] pos) (zS X ca W C (.whl e bs)) := by
  refine ps_imp (ps_while hp hc hb) fun D σ H ⟨ρ, env, M, rp, re, f⟩ => ?_
  dsimp only [evS] at f
  obtain ⟨n, hn⟩ := whl_ok (cnd := fun env M => evE C e env M) (bd := fun env M => evSs C bs env M) (env := env) (M := M) (fun z => by rw [z] at f; exact f.elim)
  rw [hn] at f
  refine ⟨fun m σ H => ∃ ρ env M, Rep X.K ρ M H ∧ RE X.K ρ M H env σ ∧ FiS X.K ca W D ρ M H (whlN (fun env M => evE C e env M) (fun env M => evSs C bs env M) m env M), ⟨n, ρ, env, M, rp, re, f⟩, ?_⟩
  rintro m σ H ⟨ρ, env, M, rp, re, f⟩
  cases m with
  | zero => exact f.elim
  | succ m =>
    dsimp only [whlN] at f
    have f' : FiS X.K ca W D ρ M H (((evE C e env M).bind fun x M1 => ofO (asB x) M1).out env fun k M1 => if k then (match evSs C bs env M1 with
          | .ok (.nx env2) M2 => whlN (fun env M => evE C e env M) (fun env M => evSs C bs env M) m env2 M2
          | .ok (.cnt env2) M2 => whlN (fun env M => evE C e env M) (fun env M => evSs C bs env M) m env2 M2
          | .ok (.brk env2) M2 => .ok (.nx env2) M2
          | o => o) else .ok (.nx env) M1) := by
      cases h : evE C e env M with
      | ok d M1 =>
        rw [h] at f
        cases d <;> first | exact f.elim | skip
        rename_i k
        cases k <;> exact f
      | exc _ _ _ => rw [h] at f; exact f
      | fail => rw [h] at f; exact f
    refine ⟨ρ, env, M, rp, re, (f'.out (R := rId) re).imp ?_⟩
    rintro k H1 ⟨ρ1, M1, k', _, rp1, x1, q1, f1⟩
    cases q1
    cases k with
    | false => rw [if_neg (by decide)] at f1 ⊢; exact f1.nx rp1 (re.ext x1)
    | true =>
      rw [if_pos rfl] at f1 ⊢
      refine ⟨fun σ H => ∃ ρ env M, Rep X.K ρ M H ∧ RE X.K ρ M H env σ ∧ FiS X.K ca W D ρ M H (whlN (fun env M => evE C e env M) (fun env M => evSs C bs env M) m env M), fun σ' H' h => ⟨m, Nat.lt_succ_self m, h⟩, ρ1, env, M1, rp1, re.ext x1, ?_⟩
      cases ho : evSs C bs env M1 with
      | fail => rw [ho] at f1; exact f1.elim
      | ok g M2 =>
        rw [ho] at f1
        cases g with
        | nx env2 => exact fun ρ' H' σ' r' y' e' => ⟨ρ', env2, M2, r', e', f1.go y'⟩
        | cnt env2 => exact fun ρ' H' σ' r' y' e' => ⟨ρ', env2, M2, r', e', f1.go y'⟩
        | brk env2 => exact f1
        | ret d => exact f1
        | exc env2 c2 p2 => exact f1
theorem zs_for {it : Z.It} {tg iter : Expr} {bs : Ss} {pb : List Stmt} (hp : PassesOwn (model X.prog X.w) X.A X.env X.xe) (hc : X.calm = true) (hi : PI X tg iter (zI X ca W C it)) (hg : PG X tg (zG X.K t)) (hb : PSs X pb (zSs X ca W C bs)) (hx : plainX iter = true) : PS X (.For tg iter pb [] pos) (zS X ca W C (.for_ t it bs)) := by
  refine ps_imp (ps_for hp hc hi hg hb (fold_plain hx)) fun D σ H ⟨ρ, env, M, rp, re, f⟩ => ⟨ρ, env, M, rp, re, ?_⟩
  dsimp only [evS] at f
  refine (f.out (R := rIt X.K) re).imp ?_
  rintro J H1 ⟨ρ1, M1, items, _, rp1, x1, ⟨hz, G, Y, w, st⟩, f1⟩
  refine for_it w (Pv := fun i σ H => ∃ ρ2 env2 M2, Rep X.K ρ2 M2 H ∧ RE X.K ρ2 M2 H env2 σ ∧ Ext ρ1 M1 H1 ρ2 M2 H ∧ FiS X.K ca W D ρ2 M2 H (forGo t (fun env M => evSs C bs env M) (items.drop i) env2 M2)) ?_ ?_ ?_ ?_
  · exact ⟨ρ1, env, M1, rp1, re.ext x1, .refl, by rw [List.drop_zero]; exact f1⟩
  · rintro i σ H hi ⟨ρ2, env2, M2, rp2, re2, x2, f2⟩
    exact (st M1 ρ2 M2 H rfl x2.wk rp2).1
  · rintro i v σ H H' hi ⟨ρ2, env2, M2, rp2, re2, x2, f2⟩ y
    obtain ⟨rp3, x3, qx⟩ := (st M1 ρ2 M2 H rfl x2.wk rp2).2 i items[i] v H' (List.getElem?_eq_getElem hi) y
    rw [List.drop_eq_getElem_cons hi] at f2
    unfold forGo at f2
    split at f2
    · exact f2.elim
    rename_i env3 he
    refine ⟨ρ2, env2, M2, items[i], env3, rp3, re2.ext x3, qx, he, fun σ1 re1 _ => ⟨ρ2, env3, M2, rp3, re1, ?_⟩⟩
    have f3 := f2.go x3
    cases ho : evSs C bs env3 M2 with
    | fail => rw [ho] at f3; exact f3.elim
    | ok g M3 =>
      rw [ho] at f3
      cases g with
      | nx env4 => exact fun ρ' H' σ' r' y' e' => ⟨ρ', env4, M3, r', e', (x2.trans x3).trans y', f3.go y'⟩
      | cnt env4 => exact fun ρ' H' σ' r' y' e' => ⟨ρ', env4, M3, r', e', (x2.trans x3).trans y', f3.go y'⟩
      | brk env4 => exact f3
      | ret d => exact f3
      | exc env4 c4 p4 => exact f3
  · rintro σ H ⟨ρ2, env2, M2, rp2, re2, x2, f2⟩
    rw [List.drop_length] at f2
    unfold forGo at f2
    exact f2.nx rp2 re2
theorem zs_aug {op : Bop} (cc : CcOk X c) (h : nameC c i x = true) (ho : op = .add ∨ op = .sub) (he : PE X pe (zE X ca W C e)) : PS X (.AugAssign (.Name x p) (bopOf op) pe pos) (zS X ca W C (.aug i op e)) := by
  unfold nameC at h
  rw [Bool.and_eq_true] at h
  obtain ⟨h1, h2⟩ := locC_ok cc h.2
  have main : ∀ D σ H, zS X ca W C (.aug i op e) D σ H → tAug i (zE X ca W C e) (fun x y H Q => ∃ p q, x = .int p ∧ y = .int q ∧ Q (.int (match op with | .add => p + q | _ => p - q)) H) D σ H := by
    intro D σ H ⟨ρ, env, M, rp, re, f⟩
    dsimp only [evS] at f
    split at f
    · rename_i d hd
      obtain ⟨v, k1, k2⟩ := re.at_ _ _ hd
      refine ⟨v, k1, ρ, env, M, rp, re, (f.out (R := rDD X.K) re).imp ?_⟩
      rintro w H1 ⟨ρ1, M1, d1, _, rp1, x1, q1, f1⟩
      split at f1
      · rename_i pp qq _
        rw [k2.int_inv, q1.int_inv]
        refine ⟨pp, qq, rfl, rfl, ?_⟩
        rcases ho with rfl | rfl
        · exact f1.nx rp1 ((re.ext x1).set i (.int _))
        · exact f1.nx rp1 ((re.ext x1).set i (.int _))
      · exact f1.elim
    · exact f.elim
  have hN : X.N[i]? = some x := by rw [cc.N]; exact of_decide_eq_true h.1
  rcases ho with rfl | rfl
  · exact ps_imp (ps_aug cc.nd hN h1 he ip_add h2) main
  · exact ps_imp (ps_aug cc.nd hN h1 he ip_sub h2) main
end
end Z


/-! Zs: raise and try as statements. -/
namespace Z
open PySem L2 PySem.Spec PyProof.Rows
section
variable {X : Cx} {ca : String → Addr} {W : WX} {C : Calls} {e : E} {pe : Expr} {x : Str} {p p1 pos : Pos} {c : String}
theorem zs_rais (hc : X.calm = true) (tk : Takes X W) (T : XcK X.prog X.K (ca c)) (hsu : X.mg "super" = none) (hr : Room 2 X.A) (hg : Gl X x) (hm : X.mg x = some (.ref (ca c))) (hdb : (x == ("__debug__" : Str)) = false) (hp : plainX pe = true) (he : PE X pe (zE X ca W C e)) :
    PS X (.Raise (some (.Call (.Name x p) [pe] [] p1)) none pos) (zS X ca W C (.rais c (.cons e .nil))) := by
  refine ps_imp (ps_raise hc tk (z_mk T hsu hr hg hm hdb hp he)) fun D σ H ⟨ρ, env, M, rp, re, f⟩ => ⟨ρ, env, M, rp, re, ?_⟩
  dsimp only [evS] at f
  have f' : FiS X.K ca W D ρ M H ((evEs C (.cons e .nil) env M).out env fun xs M1 => match xs with
      | [] => .ok (.exc env c none) M1
      | [d] => .ok (.exc env c (some d)) M1
      | _ => .fail) := f
  refine (f'.out (R := rDs X.K) re).imp ?_
  rintro vs H1 ⟨ρ1, M1, ds, e1, rp1, x1, q1, f1⟩
  have hl := evEs_len e1
  match ds, hl, q1, f1 with
  | [d], _, q1, f1 =>
    obtain ⟨v, rfl, qv⟩ := RDs.one q1
    refine ⟨by show 1 ≤ 1000; omega, fun a ha => ⟨a, v, rfl, upd_same, fun dx hdx hne => ?_⟩⟩
    rw [upd_ne hne] at hdx
    refine ⟨rfl, dx, [(("at" : Str), v)], by rw [upd_same], by rw [upd_ne hne, upd_same], hdx, ?_⟩
    rw [upd_exc ha hne]
    obtain ⟨rp2, x2⟩ := rp1.val (o := .xd [(("at" : Str), v)]) hdx
    exact f1 ρ1 _ σ (.ref (ca c)) (some dx) rp2 x2 ((re.ext x1).ext x2) ⟨rfl, dx, v, rfl, rp1.noal hdx, upd_same, RD.ext x2 qv⟩
theorem zs_tr {b : Ss} {pb : List Stmt} {h0 : ExceptHandler} {hl : List ExceptHandler} {hs : List (String × Str)} {i : Nat} {w : Str} {cs : List String} (hst : X.stack = X.env :: X.outer) (hf : X.env.frame = some X.env.locals) (hN : X.N.Nodup) (hi : X.N[i]? = some w) (lw : locS X.env.scope w = true) (tk : Takes X W)
    (Er : ErrOk X.prog X.K X.mg ca cs) (hsub : ∀ h ∈ hs, h.1 ∈ cs) (hc : hdC X.env.scope w hs (h0 :: hl) = true) (hb : ∀ (W : WX) (pn : List (Addr × Obj)) (xe : Value → Shared → Prop), Takes (X.tr pn xe) W → PassesOwn (model X.prog X.w) X.A X.env xe → PSs (X.tr pn xe) pb (zSs (X.tr pn xe) ca W C b)) :
    PS X (.Try pb (h0 :: hl) [] [] pos) (zS X ca W C (.tr b i hs)) := by
  unfold locS at lw
  simp only [Bool.and_eq_true, decide_eq_true_eq, Bool.not_eq_true'] at lw
  refine ps_imp (try_all (i := i) (n := w) (tb := fun W => zSs X ca W C b) hst hf hN hi lw.1.1 tk hb (hds_ok (i := i) hi lw.1.1 lw.1.2 lw.2 (fun h hh => Er.ex h.1 (hsub h hh)) hc)) fun D σ H ⟨ρ, env, M, rp, re, f⟩ => ⟨ρ, env, M, rp, re, ?_⟩
  dsimp only [evS] at f
  cases ho : evSs C b env M with
  | fail => rw [ho] at f; exact f.elim
  | ok fl M1 =>
    rw [ho] at f
    cases fl with
    | nx e => exact f
    | brk e => exact f
    | cnt e => exact f
    | ret d => exact f
    | exc e c pd =>
      cases pd with
      | none => exact f.elim
      | some d =>
        dsimp only [hearS] at f
        cases ht : HF.tag hs c with
        | none => rw [ht] at f; exact f.elim
        | some t =>
          rw [ht] at f
          intro ρ' H' σ' cv dd rp' x' _ ⟨ecv, a', v, ed, na, ha, qv⟩
          subst ecv ed
          obtain ⟨q, hq, e1⟩ := List.mem_map.mp (tag_mem ht)
          refine wAll_go (X := X) ha (fun p o ho hp => ?_) (fun h hh => Er.exm c (by rw [← e1]; exact hsub q hq) h.1 (hsub h hh)) ht
          obtain ⟨r1, y1, q1⟩ := rp'.newT hp ho (by rw [sizeLine_eq]; show 2 ≤ _; omega) (.cons (.str t) (.cons qv .nil))
          exact f ρ' _ _ r1 (x'.trans y1) q1
end
end Z


/-! Z17: the checker of statements. -/
namespace Z
open PySem L2 PySem.Spec PyProof.Rows

section
variable {X : Cx} {ca : String → Addr} {W : WX} {C : Calls} {c : CC} {a b e : E} {pa pb pe : Expr} {pos p p1 p2 p3 p4 p5 : Pos} {t : Tg} {i : Nat} {x y : Str}
theorem PSet.or {u v : TSet} (h : PSet X u) (h' : PSet X v) : PSet X (fun o i x H Q => u o i x H Q ∨ v o i x H Q) := by
  intro pins s σ H o i v ov iv u' Q I ro ri rv q
  rcases q with q | q
  · exact h pins s σ H o i v ov iv u' Q I ro ri rv q
  · exact h' pins s σ H o i v ov iv u' Q I ro ri rv q
theorem zs_asgIx (hu : X.A.units + 1 < cLine) (he : PE X pe (zE X ca W C e)) (ha : PE X pa (zE X ca W C a)) (hb : PE X pb (zE X ca W C b)) (hx : compX pe = false) (hp : plainX pb = true) : PS X (.Assign [.Subscript pa pb p] pe pos) (zS X ca W C (.asgIx a b e)) := by
  have hs : ∀ v, assign (.Subscript pa pb p) X.env v = (do
      let ov ← holding [v] (eval pa X.env)
      let iv ← holding [v, ov] (eval pb X.env)
      standAt p
      holding [v, ov, iv] (setItem ov iv v)
      release [v, ov, iv] []) := by
    intro v
    cases pb <;> first | rfl | cases hp
  refine ps_imp (ps_asg he (pg_sub ha hb (PSet.or set_list (set_dict hu)) hs) (by unfold swapsWithSole; exact swaps_plain hx) (by rfl) (by rfl)) fun D σ H ⟨ρ, env, M, rp, re, f⟩ => ⟨ρ, env, M, rp, re, ?_⟩
  dsimp only [evS] at f
  refine (f.out (R := rDD X.K) re).imp ?_
  rintro v H1 ⟨ρ1, M1, dv, -, rp1, x1, q1, f1⟩
  refine ⟨ρ1, env, M1, rp1, re.ext x1, (f1.out (R := rDD X.K) (re.ext x1)).imp ?_⟩
  rintro o H2 ⟨ρ2, M2, d2, -, rp2, x2, q2, f2⟩
  refine ⟨ρ2, env, M2, rp2, (re.ext x1).ext x2, (f2.out (R := rDD X.K) ((re.ext x1).ext x2)).imp ?_⟩
  rintro k H3 ⟨ρ3, M3, d3, -, rp3, x3, q3, f3⟩
  have re3 := ((re.ext x1).ext x2).ext x3
  have qv := RD.ext x3 (RD.ext x2 q1)
  have qo := RD.ext x3 q2
  unfold setIx at f3
  split at f3
  · rename_i n
    obtain ⟨l, rfl, hl⟩ := qo.loc_inv
    split at f3
    · rename_i xs k' hm
      obtain ⟨ws, g1, g2, g3⟩ := rp3.lst_at hm hl
      by_cases hk : 0 ≤ k' ∧ k' < xs.length
      · rw [if_pos (decide_eq_true hk)] at f3
        have hlen := g3.length
        refine .inl ⟨l, ws, k', k'.toNat, rfl, q3.int_inv, g1, by unfold ixN; rw [if_pos hk.1, if_pos (by omega)], ?_⟩
        obtain ⟨r4, x4⟩ := rp3.putL (ys := xs.set k'.toNat dv) (vs := ws.set k'.toNat v) hm hl (by rw [List.length_set]; exact g2) (g3.set _ qv)
        exact f3 _ _ _ r4 x4 (re3.ext x4)
      · rw [if_neg (by simpa using hk)] at f3; exact f3.elim
    · rename_i kvs z hm
      obtain ⟨ws, g1, g2, g3⟩ := rp3.dct_at hm hl
      by_cases hk : fitLen kvs.length = true
      · rw [if_pos hk] at f3
        have hlen := g3.length
        have hz : (putK ws (Sum.inr z) v).length ≤ sizeLine := by
          have h1 := (RKs.put (k := Sum.inr z) g3 qv).length
          rw [← h1]
          unfold putD
          split
          · rw [List.length_map]; exact sz_of hk
          · rw [List.length_append]; exact sz_lt hk
        refine .inr ⟨l, _, rfl, .inl ⟨ws, Sum.inr z, g1, q3.str_inv, by rw [← hlen]; exact sz_lt hk, rfl⟩, ?_⟩
        obtain ⟨r4, x4⟩ := rp3.putD (ys := putD (Sum.inr z) dv kvs) (vs := putK ws (Sum.inr z) v) hm hl hz (g3.put qv)
        exact f3 _ _ _ r4 x4 (re3.ext x4)
      · rw [if_neg hk] at f3; exact f3.elim
    · rename_i kvs z hm
      obtain ⟨ws, g1, g2, g3⟩ := rp3.dct_at hm hl
      by_cases hk : fitLen kvs.length = true
      · rw [if_pos hk] at f3
        have hlen := g3.length
        have hz : (putK ws (Sum.inl z) v).length ≤ sizeLine := by
          have h1 := (RKs.put (k := Sum.inl z) g3 qv).length
          rw [← h1]
          unfold putD
          split
          · rw [List.length_map]; exact sz_of hk
          · rw [List.length_append]; exact sz_lt hk
        refine .inr ⟨l, _, rfl, .inl ⟨ws, Sum.inl z, g1, q3.int_inv, by rw [← hlen]; exact sz_lt hk, rfl⟩, ?_⟩
        obtain ⟨r4, x4⟩ := rp3.putD (ys := putD (Sum.inl z) dv kvs) (vs := putK ws (Sum.inl z) v) hm hl hz (g3.put qv)
        exact f3 _ _ _ r4 x4 (re3.ext x4)
      · rw [if_neg hk] at f3; exact f3.elim
    · exact f3.elim
  · exact f3.elim
/-- name = [.. for ..] -/
theorem zs_setLc {m : Bool} {el : E} {it : Z.It} {cd : Oe} {own : List Nat} {ownL : List (Str × Nat)} {elt tg iter : Expr} {ifs : List Expr} {scope : Scope} (cc : CcOk X c) (hc : X.calm = true) (hi : PI X tg iter (zI X ca W C it))
    (ok : BlkOk X.N X.env.scope scope ownL) (ho : ownL.map (·.2) = own) (hsl : ∀ i ∈ t.slots, i ∈ own) (hp : plainX iter = true)
    (hg : ∀ (s : Shared) (H : Hp) (D : Addr) (cl : List (Str × Addr)) (fp : List Addr), PG (X.blk s H scope (compEnvC scope cl D X.env) fp) tg (zG X.K t))
    (ht : ∀ (s : Shared) (H : Hp) (D : Addr) (cl : List (Str × Addr)) (fp : List Addr), PTs (X.blk s H scope (compEnvC scope cl D X.env) fp) ifs (zC X ca W0 C cd))
    (he : ∀ (s : Shared) (H : Hp) (D : Addr) (cl : List (Str × Addr)) (fp : List Addr), PE (X.blk s H scope (compEnvC scope cl D X.env) fp) elt (zE X ca W0 C el))
    (hy : nameC c i y = true) (hyl : c.sc.names.lookup y = some .local) (hk : c.sc.kind = .function) (hl : (p.line == p2.line) = true) (hn : (scope.names.any fun (n, k) => n == y && (k == .local || k == .cell)) = false) :
    PS X (.Assign [.Name y p] (.ListComp elt [⟨tg, iter, ifs, 0⟩] scope p2) pos) (zS X ca W C (.asg (.n i) (.comp m el t it cd own))) := by
  unfold nameC at hy
  rw [Bool.and_eq_true] at hy
  subst ho
  have hyl' : X.env.scope.names.lookup y = some .local := by rw [cc.sc]; exact hyl
  refine ps_imp (ps_setLc hc cc.nd (by rw [cc.N]; exact of_decide_eq_true hy.1) hyl' (sw_true (by rw [cc.sc]; exact hk) hyl' hl hn) hi ok hg ht he (fold_plain hp)) ?_
  have key : ∀ σ H Q, zE X ca W C (.comp m el t it cd (ownL.map (·.2))) σ H Q → tLc (zI X ca W C it) (zG X.K t) (zC X ca W0 C cd) (zE X ca W0 C el) (ownL.map (·.2)) σ H Q := comp_core hsl
  intro D σ H h
  have h2 := asg_go (g := gName i) (P := fun _ => True) (te := zE X ca W C (.comp m el t it cd (ownL.map (·.2)))) rfl gname_z D σ H h
  exact key _ _ _ h2
theorem sw_none {ts : List Expr} {k : Nat} {env : Env} (h : (match pe with | .Tuple .. => false | _ => true) = true) : swappedStores [.Tuple ts k p] pe env = pure none := by
  cases pe <;> first | rfl | cases h
theorem sw_some2 {k k2 : Nat} {env : Env} (hk : env.scope.kind = .function) (hx : env.scope.names.lookup x = some .local) (hy : env.scope.names.lookup y = some .local) (hl : p2.line = p1.line) (hn : x ≠ y) (ha : plainX pa = true) (hb : plainX pb = true)
    (hf : ([pa, pb].all (foldedForSure 8)) = false) (hc : ([pa, pb].all (constantsAlone 8)) = false) : swappedStores [.Tuple [.Name x p1, .Name y p2] k p3] (.Tuple [pa, pb] k2 p4) env = pure (some [x, y]) := by
  have h1 : env.blockKind = .function := by unfold Env.blockKind; rw [hk]; rfl
  have h3 : (List.eraseDupsBy (fun x1 x2 => x1 == x2) [x, y]).length = 2 := by
    have hb : (y == x) = false := by simp [Ne.symm hn]
    simp [List.eraseDupsBy, List.eraseDupsBy.loop, hb]
  have kx : env.kindOf x = some .local := hx
  have ky : env.kindOf y = some .local := hy
  have e1 : (Expr.Name x p1).pos = p1 := rfl
  unfold swappedStores
  simp [h1, kx, ky, hl, hf, hc, e1, List.eraseDups, hn, hn.symm, Expr.pos]
  rw [if_neg ?_, if_pos h3]
  rintro (h | h)
  · cases pa <;> first | (cases h; done) | (cases ha; done)
  · cases pb <;> first | (cases h; done) | (cases hb; done)
end
end Z


/-! Z18: the checker of statements, and that it is right. -/
namespace Z
open PySem L2 PySem.Spec PyProof.Rows

section
variable {X : Cx} {ca : String → Addr} {W : WX} {C : Calls} {c : CC} {a b d e : E} {pa pb pd pe : Expr} {pos p p1 p2 p3 p4 p5 : Pos} {t : Tg} {i j l : Nat} {x y z : Str}
theorem zs_par3 {k k2 : Nat} (cc : CcOk X c) (hc : X.calm = true) (ha : PA X [pa, pb, pd] (zEs X ca W C (.cons a (.cons b (.cons d .nil))))) (h1 : nameC c i x = true) (h2 : nameC c j y = true) (h3 : nameC c l z = true)
    (l1 : c.sc.names.lookup x = some .local) (l2 : c.sc.names.lookup y = some .local) (l3 : c.sc.names.lookup z = some .local) (hij : i ≠ j) (hil : i ≠ l) (hjl : j ≠ l)
    (hw : swappedStores [.Tuple [.Name x p1, .Name y p2, .Name z p3] k p4] (.Tuple [pa, pb, pd] k2 p5) X.env = pure (some [x, y, z])) :
    PS X (.Assign [.Tuple [.Name x p1, .Name y p2, .Name z p3] k p4] (.Tuple [pa, pb, pd] k2 p5) pos) (zS X ca W C (.asg (.t [i, j, l]) (.tup (.cons a (.cons b (.cons d .nil)))))) := by
  unfold nameC at h1 h2 h3
  rw [Bool.and_eq_true] at h1 h2 h3
  refine ps_imp (ps_par3 hc cc.nd (by rw [cc.N]; exact of_decide_eq_true h1.1) (by rw [cc.N]; exact of_decide_eq_true h2.1) (by rw [cc.N]; exact of_decide_eq_true h3.1) hij hil hjl (by rw [cc.sc]; exact l1) (by rw [cc.sc]; exact l2) (by rw [cc.sc]; exact l3) ha hw rfl) fun D σ H ⟨ρ, env, M, rp, re, f⟩ => ?_
  dsimp only [evS] at f
  rw [show evE C (.tup (.cons a (.cons b (.cons d .nil)))) env M = (evEs C (.cons a (.cons b (.cons d .nil))) env M).bind fun xs M1 => .ok (.tup xs) M1 from by rw [evE]] at f
  have f' : FiS X.K ca W D ρ M H ((evEs C (.cons a (.cons b (.cons d .nil))) env M).out env fun xs M1 => match asgD (.t [i, j, l]) (.tup xs) env with
    | some env1 => .ok (.nx env1) M1
    | none => .fail) := by
    cases h : evEs C (.cons a (.cons b (.cons d .nil))) env M <;> (rw [h] at f; exact f)
  refine ⟨ρ, env, M, rp, re, (f'.out (R := rDs X.K) re).imp ?_⟩
  rintro vs H1 ⟨ρ1, M1, d1, e1, rp1, x1, q1, f1⟩
  have hl := evEs_len e1
  match d1, hl, q1, f1 with
  | [d, d', d''], _, .cons (v := u) k1 q1, f1 =>
    obtain ⟨v, w, rfl, k2, k3⟩ := q1.two
    exact ⟨u, v, w, rfl, f1.nx rp1 ((((re.ext x1).set i k1).set j k2).set l k3)⟩
theorem sw_some3 {k k2 : Nat} {env : Env} (hk : env.scope.kind = .function) (hx : env.scope.names.lookup x = some .local) (hy : env.scope.names.lookup y = some .local) (hz : env.scope.names.lookup z = some .local) (hl : p2.line = p1.line) (hl2 : p3.line = p1.line) (hn : x ≠ y) (hn2 : x ≠ z) (hn3 : y ≠ z) (ha : plainX pa = true) (hb : plainX pb = true) (hd : plainX pd = true)
    (hf : ([pa, pb, pd].all (foldedForSure 8)) = false) (hc : ([pa, pb, pd].all (constantsAlone 8)) = false) : swappedStores [.Tuple [.Name x p1, .Name y p2, .Name z p3] k p4] (.Tuple [pa, pb, pd] k2 p5) env = pure (some [x, y, z]) := by
  have h1 : env.blockKind = .function := by unfold Env.blockKind; rw [hk]; rfl
  have h3 : (List.eraseDupsBy (fun x1 x2 => x1 == x2) [x, y, z]).length = 3 := by
    have hb : (y == x) = false := by simp [Ne.symm hn]
    have hb2 : (z == x) = false := by simp [Ne.symm hn2]
    have hb3 : (z == y) = false := by simp [Ne.symm hn3]
    simp [List.eraseDupsBy, List.eraseDupsBy.loop, hb, hb2, hb3]
  have kx : env.kindOf x = some .local := hx
  have ky : env.kindOf y = some .local := hy
  have kz : env.kindOf z = some .local := hz
  have e1 : (Expr.Name x p1).pos = p1 := rfl
  unfold swappedStores
  simp [h1, kx, ky, kz, hl, hl2, hf, hc, e1, List.eraseDups, Expr.pos]
  rw [if_neg ?_, if_pos h3]
  rintro (h | h | h)
  · cases pa <;> first | (cases h; done) | (cases ha; done)
  · cases pb <;> first | (cases h; done) | (cases hb; done)
  · cases pd <;> first | (cases h; done) | (cases hd; done)
end
def isFn (c : CC) : Bool := match c.sc.kind with
  | .function => true
  | _ => false
def isLoc (c : CC) (x : Str) : Bool := decide (c.sc.names.lookup x = some .local)
/-- how a value goes to its target -/
def asgC (c : CC) (t : Tg) (tg pe : Expr) : Bool := match tg, pe with
  | .Name y p, .ListComp _ _ scope p2 => isLoc c y && isFn c && (p.line == p2.line) && !(scope.names.any fun (n, k) => n == y && (k == .local || k == .cell))
  | .Tuple [.Name x p1, .Name y p2] _ _, .Tuple [pa, pb] _ _ => (match t with
    | .t [i, j] => isFn c && isLoc c x && isLoc c y && decide (p2.line = p1.line) && decide (x ≠ y) && decide (i ≠ j) && plainX pa && plainX pb && !([pa, pb].all (foldedForSure 8)) && !([pa, pb].all (constantsAlone 8))
    | _ => false)
  | .Tuple [.Name x p1, .Name y p2, .Name z p3] _ _, .Tuple [pa, pb, pd] _ _ => (match t with
    | .t [i, j, l] => isFn c && isLoc c x && isLoc c y && isLoc c z && decide (p2.line = p1.line) && decide (p3.line = p1.line) && decide (x ≠ y) && decide (x ≠ z) && decide (y ≠ z) && decide (i ≠ j) && decide (i ≠ l) && decide (j ≠ l) && plainX pa && plainX pb && plainX pd && !([pa, pb, pd].all (foldedForSure 8)) && !([pa, pb, pd].all (constantsAlone 8))
    | _ => false)
  | .Name _ _, pe => !compX pe
  | .Tuple _ _ _, pe => !compX pe && (match pe with
    | .Tuple _ _ _ => false
    | _ => true)
  | _, _ => false
def asgF : Expr → Expr → Bool
  | .Tuple _ _ _, .Tuple vs _ _ => vs.all (foldedForSure 8)
  | _, _ => false
theorem sw_fold {ts vs : List Expr} {k k2 : Nat} {p p2 : Pos} {env : Env} (h : vs.all (foldedForSure 8) = true) : swappedStores [.Tuple ts k p] (.Tuple vs k2 p2) env = pure none := by
  unfold swappedStores
  simp only [h, if_true]
  repeat' split
  all_goals rfl
/-- a name among them that lambdas share -/
def asgL (c : CC) : Expr → Expr → Bool
  | .Tuple ts _ _, .Tuple _ _ _ => ts.any fun t => match t with
    | .Name x _ => !isLoc c x
    | _ => false
  | _, _ => false
theorem fm_less {α β : Type} {f : α → Option β} : ∀ {l : List α} {a : α}, a ∈ l → f a = none → (l.filterMap f).length < l.length
  | [], _, h, _ => by cases h
  | b :: r, a, h, e => by
    rcases List.mem_cons.mp h with rfl | h
    · rw [List.filterMap_cons, e]
      exact Nat.lt_succ_of_le (List.length_filterMap_le f r)
    · have ih := fm_less h e
      rw [List.filterMap_cons]
      split
      · exact Nat.lt_succ_of_lt ih
      · rw [List.length_cons, List.length_cons]; omega
theorem sw_cell {ts vs : List Expr} {k k2 : Nat} {p p2 : Pos} {env : Env} {c : CC} (hc : env.scope = c.sc) (h : asgL c (.Tuple ts k p) (.Tuple vs k2 p2) = true) : swappedStores [.Tuple ts k p] (.Tuple vs k2 p2) env = pure none := by
  unfold asgL at h
  rw [List.any_eq_true] at h
  obtain ⟨t, ht, h⟩ := h
  cases t <;> try (cases h; done)
  rename_i x px
  have hx : env.kindOf x ≠ some .local := by
    show env.scope.names.lookup x ≠ _
    rw [hc]
    unfold isLoc at h
    simpa using h
  have hlen := fm_less (f := fun e => match e with
    | .Name id pos => if env.kindOf id == some .local && pos.line == ((ts.head?.map (·.pos.line)).getD 0) then some id else none
    | _ => none) ht (by
      show (if env.kindOf x == some .local && _ then some x else none) = none
      rw [if_neg]
      intro e
      rw [Bool.and_eq_true, beq_iff_eq] at e
      exact hx e.1)
  unfold swappedStores
  dsimp only
  repeat' split
  all_goals first
    | rfl
    | skip
  all_goals (
    rename_i h4 _ _
    exfalso
    apply h4
    rw [Bool.or_eq_true]
    left
    rw [bne_iff_ne]
    intro e
    exact Nat.ne_of_lt hlen e)
def notNvr : E → Bool
  | .nvr => false
  | .comp2 .. => false
  | .frz _ => false
  | _ => true
mutual
def chkS (mo : Mo) (c : CC) : S → Stmt → Bool
  | .nvr, _ => true
  | .ex e, st => (match st with
    | .Expr pe _ => !compX pe && chkE mo c e pe
    | _ => false)
  | .asg t e, st => (match st with
    | .Assign [tg] pe _ => notNvr e && (asgC c t tg pe || asgF tg pe || asgL c tg pe) && tgC c t tg && chkE mo c e pe
    | _ => false)
  | .asgIx a i e, st => (match st with
    | .Assign [.Subscript pa pb _] pe _ => !compX pe && plainX pb && chkE mo c a pa && chkE mo c i pb && chkE mo c e pe
    | _ => false)
  | .aug i op e, st => (match st with
    | .AugAssign (.Name x _) o pe _ => decide (op = .add ∨ op = .sub) && decide (o = bopOf op) && nameC c i x && chkE mo c e pe
    | _ => false)
  | .ret o, st => (match st with
    | .Return p _ => chkO mo c o p
    | _ => false)
  | .iff e s1 s2, st => (match st with
    | .If pe b1 b2 _ => tstE e && chkE mo c e pe && chkSs mo c s1 b1 && chkSs mo c s2 b2
    | _ => false)
  | .whl e s1, st => (match st with
    | .While pe b1 [] _ => tstE e && chkE mo c e pe && chkSs mo c s1 b1
    | _ => false)
  | .for_ t it s1, st => (match st with
    | .For tg iter b1 [] _ => plainX iter && tgC c t tg && chkIt mo c it tg iter && chkSs mo c s1 b1
    | _ => false)
  | .rais ec es, st => (match st with
    | .Raise (some (.Call (.Name x _) [pe] [] _)) none _ => decide (x = Str.ofString ec) && glC c x && decide (ec ∈ mo.ex) && plainX pe && (match es with
      | .cons e .nil => chkE mo c e pe
      | _ => false)
    | _ => false)
  | .tr b i hs, st => (match st with
    | .Try pb (.ExceptHandler t (some w) s p :: hl) [] [] _ => decide (c.N[i]? = some w) && locS c.sc w && (hs.all fun h => decide (h.1 ∈ mo.ex)) && hdC c.sc w hs (.ExceptHandler t (some w) s p :: hl) && chkSs mo c b pb
    | _ => false)
  | .pas, st => (match st with
    | .Pass _ => true
    | _ => false)
  | .brk, st => (match st with
    | .Break _ => true
    | _ => false)
  | .cnt, st => (match st with
    | .Continue _ => true
    | _ => false)
def chkSs (mo : Mo) (c : CC) : Ss → List Stmt → Bool
  | .nil, ps => (match ps with
    | [] => true
    | _ => false)
  | .cons s r, ps => (match ps with
    | p :: ps => chkS mo c s p && chkSs mo c r ps
    | _ => false)
end
theorem chk_tup {mo : Mo} {c : CC} {e : E} {ps : List Expr} {k : Nat} {p : Pos} (h : chkE mo c e (.Tuple ps k p) = true) (hn : notNvr e = true) (hp : ps.all plainX = true) : ∃ es, e = .tup es := by
  cases e with
  | tstar a b =>
    unfold chkE at h
    split at h <;> try (cases h; done)
    rename_i heq
    cases heq
    simp [plainX] at hp
  | cst d => cases d <;> (unfold chkE at h; cases h)
  | tup es => exact ⟨es, rfl⟩
  | nvr => cases hn
  | frz _ => cases hn
  | _ => unfold chkE at h; cases h
theorem chk_comp {mo : Mo} {c : CC} {e : E} {el : Expr} {gs : List Comprehension} {sc : Scope} {p : Pos} (h : chkE mo c e (.ListComp el gs sc p) = true) (hn : notNvr e = true) : ∃ m a t it cd own, e = .comp m a t it cd own := by
  cases e with
  | cst d => cases d <;> (unfold chkE at h; cases h)
  | comp m a t it cd own => exact ⟨m, a, t, it, cd, own, rfl⟩
  | comp2 => cases hn
  | nvr => cases hn
  | frz _ => cases hn
  | _ => unfold chkE at h; cases h
theorem asg_ok {X : Cx} {ca : String → Addr} {W : WX} {C : Calls} {mo : Mo} {c : CC} {t : Tg} {e : E} {tg pe : Expr} {pos : Pos} (cc : CcOk X c) (mk : MoOk X ca C mo) (tk : Takes X W) (hn : notNvr e = true) (h1 : asgC c t tg pe = true) (h2 : tgC c t tg = true) (h3 : chkE mo c e pe = true) :
    PS X (.Assign [tg] pe pos) (zS X ca W C (.asg t e)) := by
  have he := (chkE_ok e cc mk tk h3).1
  have hg := pg_z (tg := tg) cc mk.calm h2
  unfold asgC at h1
  split at h1 <;> try (cases h1; done)
  · -- a comprehension
    rename_i y p pl gs scope p2
    simp only [Bool.and_eq_true, Bool.not_eq_true'] at h1
    obtain ⟨⟨⟨h4, h5⟩, h6⟩, h7⟩ := h1
    obtain ⟨m, el, t2, it, cd, own, rfl⟩ := chk_comp h3 hn
    · unfold chkE at h3
      split at h3 <;> try (cases h3; done)
      rename_i pl' tg' iter ifs as scope' pos' heq
      cases heq
      simp only [Bool.and_eq_true, decide_eq_true_eq] at h3
      obtain ⟨⟨⟨⟨⟨⟨⟨⟨rfl, k1⟩, k2⟩, k3⟩, k4⟩, k5⟩, k6⟩, k7⟩, k8⟩ := h3
      rw [List.all_eq_true] at k5
      cases t with
      | t is => unfold tgC at h2; cases h2
      | n i =>
        refine zs_setLc cc mk.calm (chkIt_ok it cc mk tk k2) (ownL := ownL c own) (by rw [cc.N, cc.sc]; exact blkOk_by k3) k4 (fun i hi => of_decide_eq_true (k5 i hi)) k1 ?_ ?_ ?_ h2 (of_decide_eq_true h4) (by unfold isFn at h5; split at h5 <;> first | assumption | cases h5) h6 h7
        · intro s H D cl fp
          exact pg_z (inner_cc cc s H _ D cl fp) mk.calm k6
        · intro s H D cl fp
          exact chkC_ok cd (inner_cc cc s H _ D cl fp) (inner_mo mk s H _ D cl fp) takesW0 k7
        · intro s H D cl fp
          exact (chkE_ok el (inner_cc cc s H _ D cl fp) (inner_mo mk s H _ D cl fp) takesW0 k8).1
  · -- two at once
    rename_i x p1 y p2 k p3 pa pb k2 p4
    split at h1 <;> try (cases h1; done)
    rename_i i j
    simp only [Bool.and_eq_true, Bool.not_eq_true', decide_eq_true_eq] at h1
    obtain ⟨⟨⟨⟨⟨⟨⟨⟨⟨g1, g2⟩, g3⟩, g4⟩, g5⟩, g6⟩, g7⟩, g8⟩, g9⟩, g10⟩ := h1
    have hk : c.sc.kind = .function := by unfold isFn at g1; split at g1 <;> first | assumption | cases g1
    obtain ⟨es, rfl⟩ := chk_tup h3 hn (by simp [g7, g8])
    · unfold chkE at h3
      simp only [Bool.and_eq_true] at h3
      have ih := chkEs_ok es cc mk tk h3.2
      obtain ⟨a, b, rfl, _⟩ := ih.two _ _ rfl
      unfold tgC namesC namesC at h2
      simp only [Bool.and_eq_true] at h2
      exact zs_par (e2 := .nvr) cc mk.calm (ih.pa h3.1.2) h2.1 h2.2.1 (of_decide_eq_true g2) (of_decide_eq_true g3) g6 (sw_some2 (by rw [cc.sc]; exact hk) (by rw [cc.sc]; exact of_decide_eq_true g2) (by rw [cc.sc]; exact of_decide_eq_true g3) g4 g5 g7 g8 g9 g10)
  · -- three at once
    rename_i x p1 y p2 z p3 k p4 pa pb pd k2 p5
    split at h1 <;> try (cases h1; done)
    rename_i i j l
    simp only [Bool.and_eq_true, Bool.not_eq_true', decide_eq_true_eq] at h1
    obtain ⟨⟨⟨⟨⟨⟨⟨⟨⟨⟨⟨⟨⟨⟨⟨⟨g1, g2⟩, g3⟩, g4⟩, g5⟩, g6⟩, g7⟩, g8⟩, g9⟩, g10⟩, g11⟩, g12⟩, g13⟩, g14⟩, g15⟩, g16⟩, g17⟩ := h1
    have hk : c.sc.kind = .function := by unfold isFn at g1; split at g1 <;> first | assumption | cases g1
    obtain ⟨es, rfl⟩ := chk_tup h3 hn (by simp [g13, g14, g15])
    · unfold chkE at h3
      simp only [Bool.and_eq_true] at h3
      have ih := chkEs_ok es cc mk tk h3.2
      unfold tgC namesC namesC namesC at h2
      simp only [Bool.and_eq_true] at h2
      cases es with
      | nil => have := ih.len; cases this
      | cons a r =>
        cases r with
        | nil => have := ih.len; cases this
        | cons b r =>
          cases r with
          | nil => have := ih.len; cases this
          | cons d r =>
            cases r with
            | cons _ _ => have := ih.len; cases this
            | nil =>
              have e2 := of_decide_eq_true g2
              have e3 := of_decide_eq_true g3
              have e4 := of_decide_eq_true g4
              exact zs_par3 cc mk.calm (ih.pa h3.1.2) h2.1 h2.2.1 h2.2.2.1 e2 e3 e4 g10 g11 g12 (sw_some3 (by rw [cc.sc]; exact hk) (by rw [cc.sc]; exact e2) (by rw [cc.sc]; exact e3) (by rw [cc.sc]; exact e4) g5 g6 g7 g8 g9 g13 g14 g15 g16 g17)
  · -- a name
    rename_i x p _ hne
    cases t with
    | t is => unfold tgC at h2; cases h2
    | n i =>
      have hx : compX pe = false := by simpa using h1
      exact zs_set cc he (swaps_plain hx) h2
  · -- names
    rename_i ts k p _ _ _
    simp only [Bool.and_eq_true, Bool.not_eq_true'] at h1
    obtain ⟨g1, g2⟩ := h1
    refine zs_asg he g1 hg (sw_none ?_) rfl
    cases pe <;> first | rfl | cases g2
mutual
theorem chkS_ok {ca : String → Addr} {C : Calls} {mo : Mo} : ∀ (s : S) {X : Cx} {W : WX} {c : CC} {st : Stmt} (cc : CcOk X c) (mk : MoOk X ca C mo) (tk : Takes X W) (hp : PassesOwn (model X.prog X.w) X.A X.env X.xe), chkS mo c s st = true → PS X st (zS X ca W C s)
  | .nvr, X, W, c, st, cc, mk, tk, hp, h => zs_nvr
  | .ex e, X, W, c, st, cc, mk, tk, hp, h => by
    unfold chkS at h
    split at h <;> try (cases h; done)
    simp only [Bool.and_eq_true, Bool.not_eq_true'] at h
    exact zs_ex (chkE_ok e cc mk tk h.2).1 h.1
  | .asg t e, X, W, c, st, cc, mk, tk, hp, h => by
    unfold chkS at h
    split at h <;> try (cases h; done)
    simp only [Bool.and_eq_true] at h
    rw [Bool.or_eq_true, Bool.or_eq_true] at h
    rcases h.1.1.2 with (h' | h') | h'
    · exact asg_ok cc mk tk h.1.1.1 h' h.1.2 h.2
    · rename_i tg pe pos
      have hg := pg_z (tg := tg) cc mk.calm h.1.2
      unfold asgF at h'
      split at h' <;> try (cases h'; done)
      exact zs_asg (chkE_ok e cc mk tk h.2).1 rfl hg (sw_fold h') rfl
    · rename_i tg pe pos
      have hg := pg_z (tg := tg) cc mk.calm h.1.2
      have h0 := h'
      unfold asgL at h'
      split at h' <;> try (cases h'; done)
      exact zs_asg (chkE_ok e cc mk tk h.2).1 rfl hg (sw_cell cc.sc h0) rfl
  | .asgIx a i e, X, W, c, st, cc, mk, tk, hp, h => by
    unfold chkS at h
    split at h <;> try (cases h; done)
    simp only [Bool.and_eq_true, Bool.not_eq_true'] at h
    exact zs_asgIx (by have := mk.un; omega) (chkE_ok e cc mk tk h.2).1 (chkE_ok a cc mk tk h.1.1.2).1 (chkE_ok i cc mk tk h.1.2).1 h.1.1.1.1 h.1.1.1.2
  | .aug i op e, X, W, c, st, cc, mk, tk, hp, h => by
    unfold chkS at h
    split at h <;> try (cases h; done)
    simp only [Bool.and_eq_true, decide_eq_true_eq] at h
    obtain ⟨⟨⟨h1, rfl⟩, h2⟩, h3⟩ := h
    exact zs_aug cc h2 h1 (chkE_ok e cc mk tk h3).1
  | .ret o, X, W, c, st, cc, mk, tk, hp, h => by
    unfold chkS at h
    split at h <;> try (cases h; done)
    rename_i p _
    cases o with
    | non =>
      unfold chkO at h
      split at h <;> try (cases h; done)
      exact zs_retN
    | som e =>
      unfold chkO at h
      split at h <;> try (cases h; done)
      exact zs_ret (chkE_ok e cc mk tk h).1
  | .iff e s1 s2, X, W, c, st, cc, mk, tk, hp, h => by
    unfold chkS at h
    split at h <;> try (cases h; done)
    simp only [Bool.and_eq_true] at h
    exact zs_if ((chkE_ok e cc mk tk h.1.1.2).2 h.1.1.1) (chkSs_ok s1 cc mk tk hp h.1.2) (chkSs_ok s2 cc mk tk hp h.2)
  | .whl e s1, X, W, c, st, cc, mk, tk, hp, h => by
    unfold chkS at h
    split at h <;> try (cases h; done)
    simp only [Bool.and_eq_true] at h
    exact zs_while hp ((chkE_ok e cc mk tk h.1.2).2 h.1.1) (chkSs_ok s1 cc mk tk hp h.2)
  | .for_ t it s1, X, W, c, st, cc, mk, tk, hp, h => by
    unfold chkS at h
    split at h <;> try (cases h; done)
    simp only [Bool.and_eq_true] at h
    exact zs_for hp mk.calm (chkIt_ok it cc mk tk h.1.2) (pg_z cc mk.calm h.1.1.2) (chkSs_ok s1 cc mk tk hp h.2) h.1.1.1
  | .rais ec es, X, W, c, st, cc, mk, tk, hp, h => by
    unfold chkS at h
    split at h <;> try (cases h; done)
    simp only [Bool.and_eq_true, decide_eq_true_eq] at h
    obtain ⟨⟨⟨⟨rfl, h1⟩, h2⟩, h3⟩, h4⟩ := h
    split at h4 <;> try (cases h4; done)
    obtain ⟨g1, g2⟩ := glC_ok cc h1
    obtain ⟨T, hm⟩ := mk.ex.ex ec h2
    exact zs_rais mk.calm tk T (mk.bl "super" (by decide)) (mk.rr (fun e => by rw [e] at h2; cases h2)).1 g1 hm g2 h3 (chkE_ok _ cc mk tk h4).1
  | .tr b i hs, X, W, c, st, cc, mk, tk, hp, h => by
    unfold chkS at h
    split at h <;> try (cases h; done)
    simp only [Bool.and_eq_true, decide_eq_true_eq, List.all_eq_true] at h
    obtain ⟨⟨⟨⟨h1, h2⟩, h3⟩, h4⟩, h5⟩ := h
    rw [← cc.N] at h1
    rw [← cc.sc] at h2 h4
    by_cases hne : hs = []
    · subst hne
      unfold hdC at h4
      cases h4
    · obtain ⟨_, r1, r2⟩ := mk.rr (fun e => by
        cases hs with
        | nil => exact hne rfl
        | cons q r => have := h3 q List.mem_cons_self; rw [e] at this; cases this)
      exact zs_tr r1 r2 cc.nd h1 h2 tk mk.ex h3 h4 fun W' pn xe tk' hp' => chkSs_ok b (X := X.tr pn xe) ⟨cc.N, cc.sc, cc.fn, cc.nd⟩ ⟨mk.calm, mk.un, mk.gl, mk.fs, mk.bl, mk.lam, mk.hs, mk.ex, mk.rr⟩ tk' hp' h5
  | .pas, X, W, c, st, cc, mk, tk, hp, h => by
    unfold chkS at h
    split at h <;> try (cases h; done)
    exact zs_pass
  | .brk, X, W, c, st, cc, mk, tk, hp, h => by
    unfold chkS at h
    split at h <;> try (cases h; done)
    exact zs_break
  | .cnt, X, W, c, st, cc, mk, tk, hp, h => by
    unfold chkS at h
    split at h <;> try (cases h; done)
    exact zs_cont
theorem chkSs_ok {ca : String → Addr} {C : Calls} {mo : Mo} : ∀ (s : Ss) {X : Cx} {W : WX} {c : CC} {st : List Stmt} (cc : CcOk X c) (mk : MoOk X ca C mo) (tk : Takes X W) (hp : PassesOwn (model X.prog X.w) X.A X.env X.xe), chkSs mo c s st = true → PSs X st (zSs X ca W C s)
  | .nil, X, W, c, st, cc, mk, tk, hp, h => by
    unfold chkSs at h
    split at h <;> try (cases h; done)
    exact zss_nil
  | .cons s r, X, W, c, st, cc, mk, tk, hp, h => by
    unfold chkSs at h
    split at h <;> try (cases h; done)
    rw [Bool.and_eq_true] at h
    exact zss_cons (chkS_ok s cc mk tk hp h.1) (chkSs_ok r cc mk tk hp h.2)
end
end Z


/-! Z19: defs keep their promises. -/
namespace Z
open PySem L2 PySem.Spec PyProof.Rows

section
variable {K : PySem.W.Frag} {ca : String → Addr} {W : WX} {ρ ρ' : Pl} {M M' : Sto} {H H' : Hp} {Q : VK}
mutual
theorem RD.back {al al' : Addr → Prop} (hp : ∀ (i : Nat) (a : Addr), ρ.l[i]? = some a → ρ'.l[i]? = some a) (hal : ∀ b, al b → al' b) : ∀ {d : D} {v v' : V} {H0 : Hp} {al0 : Addr → Prop}, RD K H0 al0 ρ d v → RD K H' al' ρ' d v' → RD K H' al ρ d v'
  | _, _, _, _, _, .non, h => by cases h; exact .non
  | _, _, _, _, _, .bl _, h => by cases h; exact .bl _
  | _, _, _, _, _, .int _, h => by cases h; exact .int _
  | _, _, _, _, _, .str _, h => by cases h; exact .str _
  | _, _, _, _, _, .tup _ _ _ r, h => by
    cases h with
    | tup h1 n z r' => exact .tup h1 (fun q => n (hal _ q)) z (RDs.back hp hal r r')
    | tupK h1 h2 h3 h4 h5 z r' => exact .tupK h1 h2 h3 h4 h5 z (RDs.back hp hal r r')
  | _, _, _, _, _, .tupK _ _ _ _ _ _ r, h => by
    cases h with
    | tup h1 n z r' => exact .tup h1 (fun q => n (hal _ q)) z (RDs.back hp hal r r')
    | tupK h1 h2 h3 h4 h5 z r' => exact .tupK h1 h2 h3 h4 h5 z (RDs.back hp hal r r')
  | _, _, _, _, _, .pr _ _ _ r, h => by
    cases h with
    | pr h1 n z r' => exact .pr h1 (fun q => n (hal _ q)) z (RDs.back hp hal r r')
  | _, _, _, _, _, .lst _ _ _ r, h => by
    cases h with
    | lst h1 n z r' => exact .lst h1 (fun q => n (hal _ q)) z (RDs.back hp hal r r')
  | _, _, _, _, _, .scr _ _ _ r, h => by
    cases h with
    | scr h1 n z r' => exact .scr h1 (fun q => n (hal _ q)) z (RDs.back hp hal r r')
    | scrK h1 z r' => exact .scrK h1 z (RDs.back hp hal r r')
  | _, _, _, _, _, .scrK _ _ r, h => by
    cases h with
    | scr h1 n z r' => exact .scr h1 (fun q => n (hal _ q)) z (RDs.back hp hal r r')
    | scrK h1 z r' => exact .scrK h1 z (RDs.back hp hal r r')
  | _, _, _, _, _, .loc h0, h => by
    cases h with
    | loc h1 => rw [hp _ _ h0] at h1; cases h1; exact .loc h0
theorem RDs.back {al al' : Addr → Prop} (hp : ∀ (i : Nat) (a : Addr), ρ.l[i]? = some a → ρ'.l[i]? = some a) (hal : ∀ b, al b → al' b) : ∀ {d : List D} {v v' : List V} {H0 : Hp} {al0 : Addr → Prop}, RDs K H0 al0 ρ d v → RDs K H' al' ρ' d v' → RDs K H' al ρ d v'
  | _, _, _, _, _, .nil, h => by cases h; exact .nil
  | _, _, _, _, _, .cons h r, h' => by
    cases h' with
    | cons k s => exact .cons (RD.back hp hal h k) (RDs.back hp hal r s)
end
theorem RKs.back {al al' : Addr → Prop} (hp : ∀ (i : Nat) (a : Addr), ρ.l[i]? = some a → ρ'.l[i]? = some a) (hal : ∀ b, al b → al' b) : ∀ {d : List (Key × D)} {v v' : List (Key × V)} {H0 : Hp} {al0 : Addr → Prop}, RKs K H0 al0 ρ d v → RKs K H' al' ρ' d v' → RKs K H' al ρ d v'
  | _, _, _, _, _, .nil, h => by cases h; exact .nil
  | _, _, _, _, _, .cons h r, h' => by
    cases h' with
    | cons k s => exact .cons (h.back hp hal k) (RKs.back hp hal r s)
theorem al_back (x : Ext ρ M H ρ' M' H') (ht : M'.take M.length = M) : ∀ b, Al ρ M b → Al ρ' M' b := by
  rintro b (h | ⟨i, o, h1, h2, h3⟩)
  · exact .inl (by rw [x.hid]; exact h)
  · refine .inr ⟨i, o, x.at h1, ?_, h3⟩
    obtain ⟨l, _⟩ := List.getElem?_eq_some_iff.mp h2
    rw [← ht, List.getElem?_take, if_pos l] at h2
    exact h2
theorem rep_back (rp : Rep K ρ M H) (rp' : Rep K ρ' M' H') (x : Ext ρ M H ρ' M' H') (ht : M'.take M.length = M) : Rep K ρ M H' ∧ Ext ρ M H ρ M H' := by
  have hal := al_back x ht
  refine ⟨⟨rp.len, rp.nd, fun i a o h1 h2 => ?_, fun b hb => ⟨(rp.hid b hb).1, by rw [x.hk b hb]; exact (rp.hid b hb).2⟩, fun p hp => ?_⟩, ⟨[], by simp⟩, rfl, x.hk, fun b o hb tb nb => ?_⟩
  · have h2' : M'[i]? = some o := by
      obtain ⟨l, _⟩ := List.getElem?_eq_some_iff.mp h2
      have h3 := h2
      rw [← ht, List.getElem?_take, if_pos l] at h3
      exact h3
    have r1 := rp'.obj i a o (x.at h1) h2'
    have r0 := rp.obj i a o h1 h2
    cases r1 with
    | dead h n => exact .dead h n
    | lst h z r =>
      cases r0 with
      | lst _ _ r0 => exact .lst h z (r0.back (fun i a h => x.at h) hal r)
    | dct h z r =>
      cases r0 with
      | dct _ _ r0 => exact .dct h z (r0.back (fun i a h => x.at h) hal r)
  · obtain ⟨h1, h2, _⟩ := rp.tab p hp
    exact ⟨h1, h2, (rp'.tab p hp).2.2⟩
  · obtain ⟨h1, h2⟩ := x.keep b o hb tb nb
    exact ⟨h1, nb⟩
theorem flats_any {al al' : Addr → Prop} {ρ2 : Pl} : ∀ {d : List D} {v : List V}, d.all D.flat = true → RDs K H' al' ρ' d v → RDs K H' al ρ2 d v
  | [], _, _, h => by cases h; exact .nil
  | x :: r, _, hf, h => by
    rw [List.all_cons, Bool.and_eq_true] at hf
    cases h with
    | cons k s =>
      refine .cons ?_ (flats_any hf.2 s)
      have h1 := hf.1
      clear hf
      cases k <;> first | (cases h1; done) | constructor
mutual
theorem frz_rd (rp : Rep K ρ M H) (rp' : Rep K ρ' M' H') (x : Ext ρ M H ρ' M' H') (hal : ∀ b, Al ρ M b → Al ρ' M' b) : ∀ {d r : D} {v : V}, RD K H' (Al ρ' M') ρ' d v → D.frz M' M.length d = some r → RD K H' (Al ρ M) ρ r v
  | .non, _, _, h, e => by rw [D.frz] at e; cases e; cases h; exact .non; all_goals simp
  | .bl _, _, _, h, e => by rw [D.frz] at e; cases e; cases h; exact .bl _; all_goals simp
  | .int _, _, _, h, e => by rw [D.frz] at e; cases e; cases h; exact .int _; all_goals simp
  | .str _, _, _, h, e => by rw [D.frz] at e; cases e; cases h; exact .str _; all_goals simp
  | .tup xs, _, _, h, e => by
    rw [D.frz] at e
    cases hx : D.frzs M' M.length xs with
    | none => rw [hx] at e; cases e
    | some ys =>
      rw [hx] at e; cases e
      cases h with
      | tup h1 n z r => exact .tup h1 (fun q => n (hal _ q)) z (frzs_rd rp rp' x hal r hx)
      | tupK h1 h2 h3 h4 h5 z r => exact .tupK h1 h2 h3 h4 h5 z (frzs_rd rp rp' x hal r hx)
  | .lst xs, _, _, h, e => by
    rw [D.frz] at e
    cases hx : D.frzs M' M.length xs with
    | none => rw [hx] at e; cases e
    | some ys =>
      rw [hx] at e; cases e
      cases h with
      | lst h1 n z r => exact .lst h1 (fun q => n (hal _ q)) z (frzs_rd rp rp' x hal r hx)
  | .scr xs, _, _, h, e => by
    rw [D.frz] at e
    cases hx : D.frzs M' M.length xs with
    | none => rw [hx] at e; cases e
    | some ys =>
      rw [hx] at e; cases e
      cases h with
      | scr h1 n z r => exact .scr h1 (fun q => n (hal _ q)) z (frzs_rd rp rp' x hal r hx)
      | scrK h1 z r => exact .scrK h1 z (frzs_rd rp rp' x hal r hx)
  | .pr xs, _, _, h, e => by rw [D.frz] at e; cases e
  | .loc k, _, _, h, e => by
    rw [D.frz] at e
    obtain ⟨a, rfl, ha⟩ := h.loc_inv
    split at e
    · rename_i hk
      cases e
      have hl : k < ρ.l.length := by rw [rp.len]; exact hk
      have e1 := x.at (List.getElem?_eq_getElem hl)
      rw [ha] at e1
      exact .loc (by rw [e1]; exact List.getElem?_eq_getElem hl)
    · rename_i hk
      split at e
      · rename_i xs hm
        split at e
        · rename_i hf
          cases e
          obtain ⟨vs, h1, h2, h3⟩ := rp'.lst_at hm ha
          refine .lst h1 ?_ h2 (flats_any hf h3)
          rintro (hb | ⟨i, o, g1, g2, g3⟩)
          · exact (rp'.hid a (by rw [x.hid]; exact hb)).1 (List.mem_of_getElem? ha)
          · have g4 := x.at g1
            obtain ⟨l1, e1⟩ := List.getElem?_eq_some_iff.mp g4
            obtain ⟨l2, e2⟩ := List.getElem?_eq_some_iff.mp ha
            have := (List.getElem_inj rp'.nd).mp (e1.trans e2.symm)
            obtain ⟨l3, _⟩ := List.getElem?_eq_some_iff.mp g2
            omega
        · cases e
      · cases e
theorem frzs_rd (rp : Rep K ρ M H) (rp' : Rep K ρ' M' H') (x : Ext ρ M H ρ' M' H') (hal : ∀ b, Al ρ M b → Al ρ' M' b) : ∀ {d r : List D} {v : List V}, RDs K H' (Al ρ' M') ρ' d v → D.frzs M' M.length d = some r → RDs K H' (Al ρ M) ρ r v
  | [], _, _, h, e => by rw [D.frzs] at e; cases e; cases h; exact .nil
  | y :: ys, _, _, h, e => by
    rw [D.frzs] at e
    cases hx : D.frz M' M.length y with
    | none => rw [hx] at e; cases e
    | some u =>
      cases hy : D.frzs M' M.length ys with
      | none => rw [hx, hy] at e; cases e
      | some us =>
        rw [hx, hy] at e; cases e
        cases h with
        | cons k s => exact .cons (frz_rd rp rp' x hal k hx) (frzs_rd rp rp' x hal s hy)
end
/-- behind a def -/
theorem back_rd {own : Bool} {d : D} {v : V} {σ : L2.St} (rp : Rep K ρ M H) (rp' : Rep K ρ' M' H') (x : Ext ρ M H ρ' M' H') (q : RD K H' (Al ρ' M') ρ' d v) (f : Fi K ca (rDD K) W σ ρ M H (back own M d M') Q) : Q v H' := by
  unfold back at f
  cases own with
  | false =>
    rw [if_neg (by decide)] at f
    exact f ρ' H' v rp' x q
  | true =>
    rw [if_pos rfl] at f
    split at f
    · rename_i ht
      cases hz : D.frz M' M.length d with
      | none => rw [hz] at f; exact f.elim
      | some r =>
        rw [hz] at f
        obtain ⟨rp2, x2⟩ := rep_back rp rp' x ht
        exact f ρ H' v rp2 x2 (frz_rd rp rp' x (al_back x ht) q hz)
    · exact f.elim
theorem backX_rd {own : Bool} {c : String} {p : Option D} {cv : Value} {dd : Option Addr} {σ : L2.St} (rp : Rep K ρ M H) (rp' : Rep K ρ' M' H') (x : Ext ρ M H ρ' M' H') (q : RX K ca H' (Al ρ' M') ρ' c p cv dd) (f : Fi K ca (rDD K) W σ ρ M H (backX own M c p M') Q) : W cv dd σ H' := by
  unfold backX at f
  cases own with
  | false =>
    rw [if_neg (by decide)] at f
    exact f ρ' H' cv dd rp' x q
  | true =>
    rw [if_pos rfl] at f
    split at f
    · rename_i ht
      obtain ⟨rp2, x2⟩ := rep_back rp rp' x ht
      cases p with
      | none => exact f ρ H' cv dd rp2 x2 ⟨q.1, trivial⟩
      | some d =>
        dsimp only at f
        cases hz : D.frz M' M.length d with
        | none => rw [hz] at f; exact f.elim
        | some r =>
          rw [hz] at f
          obtain ⟨q1, a, v, e1, na, e2, qd⟩ := q
          exact f ρ H' cv dd rp2 x2 ⟨q1, a, v, e1, fun z => na (al_back x ht _ z), e2, frz_rd rp rp' x (al_back x ht) qd hz⟩
    · exact f.elim
end
/-- the promises under a wider wish for what is raised -/
theorem FnOk.cx {P : Program} {w : World} {K : PySem.W.Frag} {mg : Str → Option Value} {base : Heap} {CX CX' : CXT} {k : Nat} {f : Addr} {fd : FuncData} {ps : List Str} {sp : Sp} (F : FnOk P w K mg base CX k f fd ps sp) (i : ∀ o H s E u s', CX o H s E u s' → CX' o H s E u s') : FnOk P w K mg base CX' k f fd ps sp :=
  ⟨F.len, fun A outer s H args us vs Q E hr he hb r h => codeAny_mono (F.run A outer s H args us vs Q E hr he hb r h) fun x s' hx => by
    cases x with
    | ok fl => cases fl <;> exact hx
    | error e => exact i _ _ _ _ _ _ hx⟩
/-- keywords in the parameters' order -/
def KwB (K : PySem.W.Frag) (fd : FuncData) (ps : List Str) : Option (List Str) → Prop
  | none => Binds K fd ps []
  | some ks => ∀ (s : Shared) (us ws : List Value), K.In s.heap → ws.length = ks.length → (us ++ ws).length = ps.length → BindsTo s fd ⟨us, ks.zip ws⟩ (ps.zip (us ++ ws))
/-- lambdas are made in defs that are marked so alone -/
def Mo.nl (mo : Mo) : Mo := ⟨mo.gl, mo.fs, [], mo.ex⟩
def moOf (mo : Mo) (low : Nat) : Mo := if low = 2 then mo else mo.nl
/-- a def of the table: its text is what the table says -/
structure DefT (K : PySem.W.Frag) (mg : Str → Option Value) (T : String → Option Fn) (mo : Mo) (g : String) : Prop where
  is : ∃ (fn : Fn) (f : Addr) (fd : FuncData) (x qual : Str) (params : Arguments) (body : List Stmt) (scope : Scope) (N ps : List Str), T g = some fn ∧ FunD K x qual params body scope [] [] f fd ∧ FnScope N ps scope ∧ ps.length = fn.np ∧ N.length = fn.ns ∧
    chkSs (moOf mo fn.low) ⟨N, scope, fun _ => true⟩ fn.body body = true ∧ mg (Str.ofString g) = some (.ref f) ∧ (∀ p ∈ mo.fs, p.1 = g → KwB K fd ps p.2) ∧
    (fn.low = 2 → ∃ c P, fd.code = .ref c ∧ (c, P, (qual ++ (".<locals>." : Str)) ++ ("<lambda>" : Str)) ∈ csK K)
structure TabOk (P : Program) (K : PySem.W.Frag) (mg : Str → Option Value) (ca : String → Addr) (T : String → Option Fn) (mo : Mo) : Prop where
  defs : ∀ p ∈ mo.fs, DefT K mg T mo p.1
  gl : ∀ p ∈ mo.gl, ∃ v u, mg (Str.ofString p.1) = some u ∧ RelV v u ∧ ∀ H al ρ, RD K H al ρ p.2 v
  bl : ∀ x ∈ bltN, mg x = none
  hs : ∀ p ∈ mo.hs, HeardK P K mg ca p.1 p.2
  ex : ErrOk P K mg ca mo.ex
  hu : ∀ p ∈ tbK K, ∀ p' ∈ tbK K, p.1 = p'.1 → p.2 = p'.2
def lvl : Nat → Nat
  | 0 => 0
  | n + 1 => n + 3
theorem lvl_le : ∀ n : Nat, lvl n ≤ n + 2
  | 0 => by decide
  | n + 1 => Nat.le_refl _
theorem lvl_low : ∀ n : Nat, lvl (n - 2) ≤ n
  | 0 => by decide
  | 1 => by decide
  | 2 => by decide
  | n + 3 => Nat.le_refl _
section
variable {P : Program} {w : World} {K : PySem.W.Frag} {mg : Str → Option Value} {base : Heap} {T : String → Option Fn} {mo : Mo} {ca : String → Addr}
theorem start_re {N : List Str} {ρ : Pl} {M : Sto} {H : Hp} {ds : List D} {vs : List V} (rp : Rep K ρ M H) (r : RDs K H (Al ρ M) ρ ds vs) {n m : Nat} (hn : ds.length = m) (hN : N.length = n) : RE K ρ M H (ds.map some ++ List.replicate (n - m) none) (L2.start N vs) := by
  have hl := r.length
  unfold L2.start
  refine ⟨by simp only [List.length_append, List.length_map, List.length_replicate]; omega, fun i d h => ?_⟩
  by_cases hi : i < ds.length
  · rw [List.getElem?_append_left (by rw [List.length_map]; exact hi), List.getElem?_map] at h
    cases hd : ds[i]? with
    | none => rw [hd] at h; cases h
    | some d' =>
      rw [hd] at h
      cases h
      obtain ⟨v, h1, h2⟩ := r.get hd
      exact ⟨v, by rw [List.getElem?_append_left (by rw [List.length_map, ← hl]; exact hi), List.getElem?_map, h1]; rfl, h2⟩
  · rw [List.getElem?_append_right (by rw [List.length_map]; omega), List.getElem?_replicate] at h
    split at h <;> cases h
/-- every def of the table, at every depth -/
theorem def_ok (tab : TabOk P K mg ca T mo) (hTB : ∀ p ∈ csK K, LamX.TabB base mg p.1 p.2.1) : ∀ (n : Nat) {g : String} {fn : Fn} {f : Addr} {fd : FuncData} {x qual : Str} {params : Arguments} {body : List Stmt} {scope : Scope} {N ps : List Str}, T g = some fn → FunD K x qual params body scope [] [] f fd → FnScope N ps scope → ps.length = fn.np → N.length = fn.ns →
    chkSs (moOf mo fn.low) ⟨N, scope, fun _ => true⟩ fn.body body = true → (fn.low = 2 → ∃ c P, fd.code = .ref c ∧ (c, P, (qual ++ (".<locals>." : Str)) ++ ("<lambda>" : Str)) ∈ csK K) → FnOk P w K mg base (L2.CX P w) (lvl n) f fd ps (spC K ca (callN T n) g)
  | 0, g, fn, f, fd, x, qual, params, body, scope, N, ps, hT, F, S, hp, hN, hb, ht => by
    refine ⟨fun vs H Q E h => ?_, fun A outer s H args us vs Q E _ _ _ _ h => ?_⟩
    · obtain ⟨ρ, M, ds, _, _, h⟩ := h
      rw [callN] at h
      exact h.elim
    · obtain ⟨ρ, M, ds, _, _, h⟩ := h
      rw [callN] at h
      exact h.elim
  | n + 1, g, fn, f, fd, x, qual, params, body, scope, N, ps, hT, F, S, hp, hN, hb, ht => by
    have hr : ∀ (ds : List D) (M : Sto), callN T (n + 1) g ds M = runF (callN T (n - fn.low)) fn ds M := by
      intro ds M
      rw [callN]
      simp only [hT]
    have all : ∀ p ∈ mo.fs, ∀ {N' : List Str} {scope' : Scope} {qual' : Str} {f' : Addr} {cdv : Value} {A : Around} {outer : List Env} {s : Shared} {H : Hp} {E : XK}, FnL (cxOf (L2.CX P w) P w K mg base N' qual' scope' f' cdv A outer s H E) ca (callN T (n - fn.low)) p.1 (Str.ofString p.1) p.2 (lvl (n - fn.low)) := by
      intro p hp' N' scope' qual' f' cdv A outer s H E
      obtain ⟨fn2, f2, fd2, x2, q2, pa2, b2, sc2, N2, ps2, t1, t2, t3, t4, t5, t6, t7, t8, t9⟩ := (tab.defs p hp').is
      have ih := def_ok tab hTB (n - fn.low) t1 t2 t3 t4 t5 t6 t9
      have k8 := t8 p hp' rfl
      refine ⟨f2, fd2, ps2, ih, t7, t2.kp, ?_⟩
      cases hk : p.2 with
      | none => rw [hk] at k8; exact k8
      | some ks => rw [hk] at k8; exact k8
    obtain ⟨oc, od, dV, kV, doc, pm, an, cdv, ct, osl, rfl, lk, hcd, _, _⟩ := F.ex
    have hfs : (moOf mo fn.low).fs = mo.fs := by unfold moOf; split <;> rfl
    have hgl : (moOf mo fn.low).gl = mo.gl := by unfold moOf; split <;> rfl
    have hex : (moOf mo fn.low).ex = mo.ex := by unfold moOf; split <;> rfl
    refine fn_of (k := n + 2) lk hcd S (fun vs H Q E h => ?_) (fun A outer s H vs Q E hroom h => ⟨zSs (cxOf (L2.CX P w) P w K mg base N qual scope f cdv A outer s H E) ca (fun c d _ H => E c d H) (callN T (n - fn.low)) fn.body, ?_, ?_⟩)
    · obtain ⟨ρ, M, ds, rp, r, h⟩ := h
      rw [hr] at h
      unfold runF at h
      split at h
      · rename_i hl
        rw [hp, ← hl, r.length]
      · exact h.elim
    · refine chkSs_ok fn.body (mo := moOf mo fn.low) (c := ⟨N, scope, fun _ => true⟩) ⟨rfl, rfl, rfl, S.nd⟩ ⟨rfl, room65 hroom, by rw [hgl]; exact tab.gl, fun p hp' => ?_, tab.bl, fun hne => ?_, fun p hp' => ?_, by rw [hex]; exact tab.ex, fun _ => ⟨hroom.mono (by omega), rfl, rfl⟩⟩ ?_ ?_ hb
      · rw [hfs] at hp'
        exact ⟨_, all p hp', hroom.mono (by have := lvl_le (n - fn.low); omega)⟩
      · have e2 : fn.low = 2 := by
          by_cases e : fn.low = 2
          · exact e
          · exact absurd (by unfold moOf; rw [if_neg e]; rfl) hne
        obtain ⟨c, Pt, g1, g2⟩ := ht e2
        refine ⟨⟨lvl (n - fn.low), fun p hp' => by rw [hfs] at hp'; exact all p hp', hroom.mono (by have := lvl_low n; rw [e2]; omega)⟩, ⟨c, Pt, g2, g1, hTB _ g2⟩, tab.hu⟩
      · have hm : p ∈ mo.hs := by
          unfold moOf at hp'
          split at hp'
          · exact hp'
          · cases hp'
        exact tab.hs p hm
      · exact takes_of rfl rfl rfl rfl
      · exact passes_of rfl
    · obtain ⟨ρ, M, ds, rp, r, h⟩ := h
      rw [hr] at h
      unfold runF at h
      split at h
      · rename_i hl
        refine ⟨ρ, ds.map some ++ List.replicate (fn.ns - fn.np) none, M, rp, start_re rp r hl hN, ?_⟩
        cases ho : evSs (callN T (n - fn.low)) fn.body (ds.map some ++ List.replicate (fn.ns - fn.np) none) M with
        | fail => rw [ho] at h; exact h.elim
        | ok fl M' =>
          rw [ho] at h
          cases fl with
          | nx env' => exact fun ρ' H' σ' rp' x' _ => back_rd rp rp' x' .non h
          | ret d => exact fun ρ' H' v rp' x' q => back_rd rp rp' x' q h
          | brk env' => exact h.elim
          | cnt env' => exact h.elim
          | exc env' c p => exact fun ρ' H' σ' cv dd rp' x' _ qx => backX_rd rp rp' x' qx h
      · exact h.elim
termination_by n => n
decreasing_by omega
end
end Z


/-! Z20: how a law ends. -/
namespace Z
open PySem L2 PySem.Spec PyProof.Rows

theorem fm {α : Type} {P : α → Prop} {a : α} {l : List α} (h : P a) (t : ∀ p ∈ l, P p) : ∀ p ∈ a :: l, P p := fun p hp => by
  rcases List.mem_cons.mp hp with rfl | hp
  · exact h
  · exact t p hp
theorem fz {α : Type} {P : α → Prop} : ∀ p ∈ ([] : List α), P p := fun _ h => by cases h
section
variable {K : PySem.W.Frag} {fd : FuncData} {ps : List Str} {mo : Mo} {x qual : Str} {params : Arguments} {body : List Stmt} {scope : Scope} {f : Addr}
theorem kw_of {g : String} {L : List (Option (List Str))} (h : (mo.fs.filter fun p => decide (p.1 = g)).map (·.2) = L) (hL : ∀ k ∈ L, KwB K fd ps k) : ∀ p ∈ mo.fs, p.1 = g → KwB K fd ps p.2 := by
  intro p hp e
  apply hL
  rw [← h]
  exact List.mem_map.mpr ⟨p, List.mem_filter.mpr ⟨hp, decide_eq_true e⟩, rfl⟩
theorem kw_pos (F : FunD K x qual params body scope [] [] f fd) (h : ∀ (kV doc pm : Value) (an : Option Addr) (cdv ct : Value) (us : List Value), us.length = ps.length → bindArgs (PySem.W.fnOf x qual params body scope .none kV doc pm an cdv ct) ⟨us, []⟩ = pure (ps.zip us)) : KwB K fd ps none := FunD.bindsN F h
theorem kw_kw {ks : List Str} {a : Nat} (ha : a + ks.length = ps.length) (F : FunD K x qual params body scope [] [] f fd) (h : ∀ (kV doc pm : Value) (an : Option Addr) (cdv ct : Value) (us ws : List Value), us.length = a → ws.length = ks.length → bindArgs (PySem.W.fnOf x qual params body scope .none kV doc pm an cdv ct) ⟨us, ks.zip ws⟩ = pure (ps.zip (us ++ ws))) : KwB K fd ps (some ks) := by
  intro s us ws _ h1 h2
  obtain ⟨oc, od, dV, kV, doc, pm, an, cdv, ct, osl, rfl, lk, hcd, hD, hK⟩ := F.ex
  rcases hD with ⟨_, rfl⟩ | ⟨e, _⟩
  · exact .of_eq (h kV doc pm an cdv ct us ws (by rw [List.length_append] at h2; omega) h1)
  · exact absurd rfl e
end
theorem rep_nil {K : PySem.W.Frag} {H : Hp} (ht : ∀ p ∈ tbK K, H p.1 = some (.tbl #[])) : Rep K ⟨[], []⟩ [] H := ⟨rfl, .nil, fun i a o h _ => by simp at h, (fun b hb => by cases hb), fun p hp => ⟨by simp, by simp, LamX.TabS.nil (ht p hp)⟩⟩
theorem rd_scr {K : PySem.W.Frag} {H : Hp} {a : Addr} {ns : List Int} (h : SqL K H a (ns.map V.int)) (hl : ns.length ≤ 1000000) : RD K H (Al ⟨[], []⟩ []) ⟨[], []⟩ (.scr (ns.map .int)) (.ref a) := by
  have r : RDs K H (Al ⟨[], []⟩ []) ⟨[], []⟩ (ns.map .int) (ns.map V.int) := by
    clear h hl
    induction ns with
    | nil => exact .nil
    | cons i r ih => exact .cons (.int i) ih
  have hz : (ns.map V.int).length ≤ sizeLine := by rw [List.length_map]; exact sz_le hl
  have na : ¬ Al ⟨[], []⟩ [] a := by
    rintro (h | ⟨i, o, h1, _⟩)
    · cases h
    · simp at h1
  rcases h with h | h
  · exact .scr h na hz r
  · exact .scrK h hz r
/-- the code objects and their tables, as the library's end wants them -/
def csL (K : PySem.W.Frag) : List (Addr × Addr) := (csK K).map fun p => (p.1, p.2.1)
theorem csL_of {K : PySem.W.Frag} {A : Addr × Addr → Prop} (h : ∀ p ∈ csK K, A (p.1, p.2.1)) : ∀ p ∈ csL K, A p := fun p hp => by
  obtain ⟨q, hq, e⟩ := List.mem_map.mp hp
  rw [← e]; exact h q hq
/-- a law's end, by what is reckoned of it -/
theorem law_end {l : PySem.W.OpenLaw} {q : Program} {loose : List Str} {XP : (Str → Option Value) → Heap → Prop} {YP : World → Heap → Prop} {d : DefRec} {n N : Nat} {x : Str} {T : String → Option Fn} {mo : Mo} {scope : Scope} {params : Arguments} {body : List Stmt} {Nl : List Str} {fn : Fn}
    (hn : l.most = some n) (hn2 : n ≤ 1000000) (hdf : d.params.defaults = []) (hr : Room (lvl N) callerA) (hd : d.name = Str.ofString "law")
    (hT : T "law" = some fn) (S : FnScope Nl [x] scope) (h1 : 1 = fn.np) (h2 : Nl.length = fn.ns) (hb : chkSs (moOf mo fn.low) ⟨Nl, scope, fun _ => true⟩ fn.body body = true)
    (hlaw : ∀ ns : List Int, ns.length ≤ n → ∃ M, callN T N "law" [.scr (ns.map .int)] [] = .ok (.bl true) M)
    (F : ∀ (w : World) (mg : Str → Option Value) (fa : Addr) (h : Heap), YP w h → h.Ns mainGlobals mg → mg (Str.ofString "law") = some (.ref fa) →
      ∃ (K : PySem.W.Frag) (ca : String → Addr) (fd : FuncData) (qual : Str), K.In h ∧ (∀ p ∈ csK K, h.get? p.2.1 = some { cls := .none, data := .fields #[] } ∧ K.lookup p.2.1 = none ∧ PySem.W.CodeHd h p.1 p.2.1) ∧ TabOk l.prog K mg ca T mo ∧ FunD K (Str.ofString "law") qual params body scope [] [] fa fd ∧
        (fn.low = 2 → ∃ c P, fd.code = .ref c ∧ (c, P, (qual ++ (".<locals>." : Str)) ++ ("<lambda>" : Str)) ∈ csK K) ∧ ∀ (s : Shared) (u : Value), BindsTo s fd ⟨[u], []⟩ [(x, u)]) :
    PySem.W.WalkO q loose XP YP l.row.toRowW d [] (fun f vs => PySem.call f vs) := by
  refine LamX.walk_ofTsE (l := l) (n := n) (k := lvl N) (x := x) (CX := fun w => L2.CX l.prog w) hn (sz_le hn2) hdf hr ?_ ?_
  · intro w mg fa h Y G hmg
    rw [hd] at hmg
    obtain ⟨K, ca, fd, qual, KX, hcs, tab, FD, hlow, bt⟩ := F w mg fa h Y G hmg
    refine ⟨K, KX, fd, csL K, spC K ca (callN T N) "law", csL_of fun p hp => (hcs p hp).1, csL_of fun p hp => (hcs p hp).2.1, csL_of fun p hp => (hcs p hp).2.2, bt, fun H a ns hl _ hH hS => ?_, fun base _ _ hTB => ?_⟩
    · obtain ⟨M, e⟩ := hlaw ns hl
      refine ⟨⟨[], []⟩, [], [.scr (ns.map .int)], rep_nil fun p hp => ?_, .cons (rd_scr hS (Nat.le_trans hl hn2)) .nil, ?_⟩
      · obtain ⟨r, hr, e⟩ := List.mem_map.mp hp
        rw [← e]
        exact hH (r.1, r.2.1) (List.mem_map.mpr ⟨r, hr, rfl⟩)
      · rw [e]
        intro ρ' H' b _ _ q
        exact q.bl_inv
    · exact def_ok tab (fun p hp => hTB (p.1, p.2.1) (List.mem_map.mpr ⟨p, hp, rfl⟩)) N hT FD S h1 h2 hb hlow
  · intro w H s e s' h
    obtain ⟨_, _, _, _, _, _, _, _, _, _, _, _, z⟩ := h
    exact z
end Z


/-! Z21: reckoning with the meaning. -/
namespace Z
open PySem L2
section
variable {C : Calls} {env : En} {M : Sto}
@[simp] theorem ev_var {i : Nat} : evE C (.var i) env M = (match env[i]? with
    | some (some d) => .ok d M
    | _ => .fail) := rfl
@[simp] theorem ev_cst {d : D} : evE C (.cst d) env M = .ok d M := rfl
@[simp] theorem ev_gl {x : String} {d : D} : evE C (.gl x d) env M = .ok d M := rfl
@[simp] theorem ev_bin {op : Bop} {a b : E} : evE C (.bin op a b) env M = (evE C a env M).bind fun x M1 => (evE C b env M1).bind fun y M2 => binD op x y M2 := rfl
@[simp] theorem ev_neg {a : E} : evE C (.neg a) env M = (evE C a env M).bind fun x M1 => (match x with
    | .int i => .ok (.int (-i)) M1
    | _ => .fail) := rfl
@[simp] theorem ev_cmp {op : Cop} {a b : E} : evE C (.cmp op a b) env M = (evE C a env M).bind fun x M1 => (evE C b env M1).bind fun y M2 => (ofO (cmpD M2 op x y) M2).bind fun k M3 => .ok (.bl k) M3 := rfl
@[simp] theorem ev_chain {o1 o2 : Cop} {a b c : E} : evE C (.chain o1 o2 a b c) env M = (evE C a env M).bind fun x M1 => (evE C b env M1).bind fun y M2 => (ofO (cmpD M2 o1 x y) M2).bind fun k M3 =>
      if k then (evE C c env M3).bind fun z M4 => (ofO (cmpD M4 o2 y z) M4).bind fun k2 M5 => .ok (.bl k2) M5 else .ok (.bl false) M3 := rfl
@[simp] theorem ev_isN {g : Bool} {a : E} : evE C (.isN g a) env M = (evE C a env M).bind fun x M1 => .ok (.bl (match x with | .non => !g | _ => g)) M1 := rfl
@[simp] theorem ev_isB {g b : Bool} {a : E} : evE C (.isB g b a) env M = (evE C a env M).bind fun x M1 => .ok (.bl (match x with | .bl c => (c == b) != g | _ => g)) M1 := rfl
@[simp] theorem ev_boo {k : Bool} {es : Es} : evE C (.boo k es) env M = evBoo C k es env M := rfl
@[simp] theorem ev_not {a : E} : evE C (.not a) env M = (evE C a env M).bind fun x M1 => (ofO (asB x) M1).bind fun k M2 => .ok (.bl (!k)) M2 := rfl
@[simp] theorem ev_ite {c a b : E} : evE C (.ite c a b) env M = (evE C c env M).bind fun x M1 => (ofO (asB x) M1).bind fun k M2 => if k then evE C a env M2 else evE C b env M2 := rfl
@[simp] theorem ev_tup {es : Es} : evE C (.tup es) env M = (evEs C es env M).bind fun xs M1 => .ok (.tup xs) M1 := rfl
@[simp] theorem ev_tstar {a b : E} : evE C (.tstar a b) env M = (evE C a env M).bind fun x M1 => (evE C b env M1).bind fun y M2 => starD x y M2 := rfl
@[simp] theorem ev_lst {m : Bool} {es : Es} : evE C (.lst m es) env M = (evEs C es env M).bind fun xs M1 => newList m xs M1 := rfl
@[simp] theorem ev_dic0 : evE C .dic0 env M = .ok (.loc M.length) (M ++ [.dct []]) := rfl
@[simp] theorem ev_idx {a i : E} : evE C (.idx a i) env M = (evE C a env M).bind fun x M1 => (evE C i env M1).bind fun y M2 => ofO (idxD M2 x y) M2 := rfl
@[simp] theorem ev_slc {m : Bool} {a : E} {lo hi : Oe} : evE C (.slc m a lo hi) env M = (evE C a env M).bind fun x M1 => (evO C lo env M1).bind fun l M2 => (evO C hi env M2).bind fun h M3 => slcD m x l h M3 := rfl
@[simp] theorem ev_rev {m : Bool} {a : E} : evE C (.rev m a) env M = (evE C a env M).bind fun x M1 => (match x with
    | .lst xs => newList m xs.reverse M1
    | _ => .fail) := rfl
@[simp] theorem ev_call {f : String} {es : Es} : evE C (.call f es) env M = (evEs C es env M).bind fun xs M1 => C f xs M1 := rfl
@[simp] theorem ev_callk {f : String} {es kes : Es} {ks : List String} : evE C (.callk f es ks kes) env M = (evEs C es env M).bind fun xs M1 => (evEs C kes env M1).bind fun ys M2 => C f (xs ++ ys) M2 := rfl
@[simp] theorem ev_bi {b : Bi} {m : Bool} {es : Es} : evE C (.bi b m es) env M = (evEs C es env M).bind fun xs M1 => biD b m xs M1 := rfl
@[simp] theorem ev_isi {a : E} {o : Bool} {ts : List Ty} : evE C (.isi a o ts) env M = (evE C a env M).bind fun x M1 => (ofO (tyOf M1 x) M1).bind fun u M2 => .ok (.bl (ts.any (subTy u))) M2 := rfl
@[simp] theorem ev_mth {f : Mt} {a : E} {es : Es} : evE C (.mth f a es) env M = (evE C a env M).bind fun x M1 => if kindM f M1 x then (evEs C es env M1).bind fun xs M2 => mthD f x xs M2 else .fail := rfl
@[simp] theorem ev_comp {m : Bool} {el : E} {t : Tg} {it : Z.It} {c : Oe} {own : List Nat} : evE C (.comp m el t it c own) env M = (evIt C it env M).bind fun items M1 =>
      (compGo t (fun env M => evC C c env M) (fun env M => evE C el env M) (wipeE env own) items M1).bind fun ys M2 => newList m ys M2 := rfl
@[simp] theorem ev_comp2 {m : Bool} {el : E} {t t1 : Tg} {it it1 : Z.It} {c c1 : Oe} {own own1 : List Nat} : evE C (.comp2 m el t it c t1 it1 c1 own own1) env M = (evIt C it env M).bind fun items M1 => if decide (items.length ≤ 1000) then
      (compGo2 t (fun env M => evC C c env M) (fun env M => evIt C it1 env M) t1 (fun env M => evC C c1 env M) (fun env M => evE C el env M) own1 (wipeE env own) items M1).bind fun ys M2 => newList m ys M2 else .fail := rfl
@[simp] theorem ev_boo1 {k : Bool} {e : E} : evBoo C k (.cons e .nil) env M = evE C e env M := rfl
@[simp] theorem ev_boo2 {k : Bool} {e e2 : E} {r : Es} : evBoo C k (.cons e (.cons e2 r)) env M = (evE C e env M).bind fun x M1 => (ofO (asB x) M1).bind fun b M2 => if b == k then evBoo C k (.cons e2 r) env M2 else .ok (.bl (!k)) M2 := rfl
@[simp] theorem ev_nil : evEs C .nil env M = .ok [] M := rfl
@[simp] theorem ev_cons {e : E} {es : Es} : evEs C (.cons e es) env M = (evE C e env M).bind fun x M1 => (evEs C es env M1).bind fun xs M2 => .ok (x :: xs) M2 := rfl
@[simp] theorem ev_onon : evO C .non env M = .ok none M := rfl
@[simp] theorem ev_osom {e : E} : evO C (.som e) env M = (evE C e env M).bind fun x M1 => (match x with
    | .int i => .ok (some i) M1
    | _ => .fail) := rfl
@[simp] theorem ev_cnon : evC C .non env M = .ok true M := rfl
@[simp] theorem ev_csom {e : E} : evC C (.som e) env M = (evE C e env M).bind fun x M1 => ofO (asB x) M1 := rfl
@[simp] theorem ev_sq {e : E} : evIt C (.sq e) env M = (evE C e env M).bind fun x M1 => ofO (walkD x) M1 := rfl
@[simp] theorem ev_rng {es : Es} : evIt C (.rng es) env M = (evEs C es env M).bind fun xs M1 => (match xs with
    | [.int n] => if fitLen n.natAbs then .ok (rngD 0 n.toNat) M1 else .fail
    | [.int lo, .int hi] => if fitLen lo.natAbs && fitLen hi.natAbs then .ok (rngD lo (hi - lo).toNat) M1 else .fail
    | _ => .fail) := rfl
@[simp] theorem ev_zip {a b : E} : evIt C (.zip a b) env M = (evE C a env M).bind fun x M1 => (evE C b env M1).bind fun y M2 => (match x, y with
    | .lst xs, .lst ys => .ok (zipD xs ys) M2
    | .tup xs, .tup ys => .ok (zipD xs ys) M2
    | _, _ => .fail) := rfl
@[simp] theorem es_ex {e : E} : evS C (.ex e) env M = (evE C e env M).out env fun _ M1 => .ok (.nx env) M1 := rfl
@[simp] theorem es_asg {t : Tg} {e : E} : evS C (.asg t e) env M = (evE C e env M).out env fun x M1 => (match asgD t x env with
    | some env1 => .ok (.nx env1) M1
    | none => .fail) := rfl
@[simp] theorem es_asgIx {a i e : E} : evS C (.asgIx a i e) env M = (evE C e env M).out env fun v M1 => (evE C a env M1).out env fun x M2 => (evE C i env M2).out env fun y M3 => (setIx x y v M3).out env fun _ M4 => .ok (.nx env) M4 := rfl
@[simp] theorem es_aug {i : Nat} {op : Bop} {e : E} : evS C (.aug i op e) env M = (match env[i]? with
    | some (some x) => (evE C e env M).out env fun y M1 => (match x, y with
      | .int p, .int q => (binD op (.int p) (.int q) M1).out env fun z M2 => .ok (.nx (env.set i (some z))) M2
      | _, _ => .fail)
    | _ => .fail) := rfl
@[simp] theorem es_retN : evS C (.ret .non) env M = .ok (.ret .non) M := rfl
@[simp] theorem es_ret {e : E} : evS C (.ret (.som e)) env M = (evE C e env M).out env fun x M1 => .ok (.ret x) M1 := rfl
@[simp] theorem es_iff {c : E} {a b : Ss} : evS C (.iff c a b) env M = (evE C c env M).out env fun x M1 => (match x with
    | .bl true => evSs C a env M1
    | .bl false => evSs C b env M1
    | _ => .fail) := rfl
@[simp] theorem es_whl {c : E} {b : Ss} : evS C (.whl c b) env M = whlGo (fun env M => evE C c env M) (fun env M => evSs C b env M) env M := rfl
@[simp] theorem es_for {t : Tg} {it : Z.It} {b : Ss} : evS C (.for_ t it b) env M = (evIt C it env M).out env fun items M1 => forGo t (fun env M => evSs C b env M) items env M1 := rfl
@[simp] theorem ev_heard {g : String} {h : HF} {e : E} : evE C (.heard g h e) env M = hearD h (evE C e env M) := rfl
@[simp] theorem ev_frz {a : E} : evE C (.frz a) env M = (evE C a env M).bind fun x M1 => frzD x M1 := rfl
@[simp] theorem es_rais {c : String} {es : Es} : evS C (.rais c es) env M = (evEs C es env M).out env fun xs M1 => (match xs with
    | [] => .ok (.exc env c none) M1
    | [d] => .ok (.exc env c (some d)) M1
    | _ => .fail) := rfl
@[simp] theorem es_tr {b : Ss} {i : Nat} {hs : List (String × Str)} : evS C (.tr b i hs) env M = hearS hs (evSs C b env M) := rfl
@[simp] theorem es_nil : evSs C .nil env M = .ok (.nx env) M := rfl
@[simp] theorem es_cons {s : S} {r : Ss} : evSs C (.cons s r) env M = (evS C s env M).next fun env1 M1 => evSs C r env1 M1 := rfl
end
@[simp] theorem newList_f {xs : List D} {M : Sto} : newList false xs M = .ok (.lst xs) M := rfl
@[simp] theorem newList_t {xs : List D} {M : Sto} : newList true xs M = .ok (.loc M.length) (M ++ [.lst xs]) := rfl
@[simp] theorem asB_bl {b : Bool} : asB (.bl b) = some b := rfl
/-! ### values without places -/
mutual
def D.pure : D → Bool
  | .tup xs => D.pures xs
  | .lst xs => D.pures xs
  | .scr _ => false
  | .loc _ => false
  | .pr _ => false
  | _ => true
def D.pures : List D → Bool
  | [] => true
  | x :: xs => D.pure x && D.pures xs
end
mutual
theorem frz_pure {M : Sto} {n : Nat} : ∀ {d : D}, d.pure = true → D.frz M n d = some d
  | .non, _ => by rw [D.frz]; all_goals simp
  | .bl _, _ => by rw [D.frz]; all_goals simp
  | .int _, _ => by rw [D.frz]; all_goals simp
  | .str _, _ => by rw [D.frz]; all_goals simp
  | .tup xs, h => by rw [D.frz, frzs_pure (show D.pures xs = true from h)]; rfl
  | .lst xs, h => by rw [D.frz, frzs_pure (show D.pures xs = true from h)]; rfl
  | .scr _, h => by cases h
  | .loc _, h => by cases h
  | .pr _, h => by cases h
theorem frzs_pure {M : Sto} {n : Nat} : ∀ {d : List D}, D.pures d = true → D.frzs M n d = some d
  | [], _ => by rw [D.frzs]
  | x :: xs, h => by
    have h : (D.pure x && D.pures xs) = true := h
    rw [Bool.and_eq_true] at h
    rw [D.frzs, frz_pure h.1, frzs_pure h.2]; rfl
end
theorem callN_s {T : String → Option Fn} {n : Nat} {g : String} {fn : Fn} {ds : List D} {M : Sto} (hT : T g = some fn) : callN T (n + 1) g ds M = runF (callN T (n - fn.low)) fn ds M := by
  rw [callN]
  simp only [hT]
/-- what a call gives, whatever the store -/
def Calc (C : Calls) (g : String) (ds : List D) (r : D) : Prop := ∀ M, C g ds M = .ok r M
/-- .. which error leaves it -/
def CalcX (C : Calls) (g : String) (ds : List D) (c : String) (p : D) : Prop := ∀ M, C g ds M = .exc c (some p) M
section
variable {T : String → Option Fn} {n : Nat} {g : String} {fn : Fn} {ds : List D}
theorem own_callM {r : D} {M : Sto} (hT : T g = some fn) (ho : fn.own = true) (hl : ds.length = fn.np) (hp : r.pure = true)
    (h : ∃ M', evSs (callN T n) fn.body (ds.map some ++ List.replicate (fn.ns - fn.np) none) M = .ok (.ret r) (M ++ M')) (hz : fn.low = 0 := by rfl) : callN T (n + 1) g ds M = .ok r M := by
  obtain ⟨M', e⟩ := h
  rw [callN_s hT, hz]
  unfold runF
  rw [if_pos hl, Nat.sub_zero, e]
  show back fn.own M r (M ++ M') = _
  unfold back
  rw [if_pos ho, if_pos (by rw [List.take_left]), frz_pure hp]
theorem own_call {r : D} (hT : T g = some fn) (ho : fn.own = true) (hl : ds.length = fn.np) (hp : r.pure = true)
    (h : ∀ M, ∃ M', evSs (callN T n) fn.body (ds.map some ++ List.replicate (fn.ns - fn.np) none) M = .ok (.ret r) (M ++ M')) (hz : fn.low = 0 := by rfl) : Calc (callN T (n + 1)) g ds r := fun M => own_callM hT ho hl hp (h M) hz
theorem own_callN (hT : T g = some fn) (ho : fn.own = true) (hl : ds.length = fn.np)
    (h : ∀ M, ∃ env M', evSs (callN T n) fn.body (ds.map some ++ List.replicate (fn.ns - fn.np) none) M = .ok (.nx env) (M ++ M')) (hz : fn.low = 0 := by rfl) : Calc (callN T (n + 1)) g ds .non := by
  intro M
  obtain ⟨env, M', e⟩ := h M
  rw [callN_s hT, hz]
  unfold runF
  rw [if_pos hl, Nat.sub_zero, e]
  show back fn.own M .non (M ++ M') = _
  unfold back
  rw [if_pos ho, if_pos (by rw [List.take_left]), frz_pure (d := .non) rfl]
theorem own_exc {c : String} {p : D} (hT : T g = some fn) (ho : fn.own = true) (hl : ds.length = fn.np) (hp : p.pure = true)
    (h : ∀ M, ∃ env M', evSs (callN T n) fn.body (ds.map some ++ List.replicate (fn.ns - fn.np) none) M = .ok (.exc env c (some p)) (M ++ M')) (hz : fn.low = 0 := by rfl) : CalcX (callN T (n + 1)) g ds c p := by
  intro M
  obtain ⟨env, M', e⟩ := h M
  rw [callN_s hT, hz]
  unfold runF
  rw [if_pos hl, Nat.sub_zero, e]
  show backX fn.own M c (some p) (M ++ M') = _
  unfold backX
  rw [if_pos ho, if_pos (by rw [List.take_left])]
  dsimp only
  rw [frz_pure hp]
theorem free_call {r : D} {M M' : Sto} (hT : T g = some fn) (ho : fn.own = false) (hl : ds.length = fn.np)
    (h : evSs (callN T n) fn.body (ds.map some ++ List.replicate (fn.ns - fn.np) none) M = .ok (.ret r) M') (hz : fn.low = 0 := by rfl) : callN T (n + 1) g ds M = .ok r M' := by
  rw [callN_s hT, hz]
  unfold runF
  rw [if_pos hl, Nat.sub_zero, h]
  show back fn.own M r M' = _
  unfold back
  rw [ho]; rfl
/-- .. of a def that makes lambdas -/
theorem free_low {r : D} {M M' : Sto} (hT : T g = some fn) (ho : fn.own = false) (hl : ds.length = fn.np) (hz : fn.low = 2)
    (h : evSs (callN T n) fn.body (ds.map some ++ List.replicate (fn.ns - fn.np) none) M = .ok (.ret r) M') : callN T (n + 3) g ds M = .ok r M' := by
  rw [callN_s (n := n + 2) hT, hz]
  unfold runF
  rw [if_pos hl, show n + 2 - 2 = n from rfl, h]
  show back fn.own M r M' = _
  unfold back
  rw [ho]; rfl
end
/-! ### loops -/
theorem comp_pure {t : Tg} {c : En → Sto → Res Bool} {el : En → Sto → Res D} {env : En} {p : D → Bool} {q : D → D} {M : Sto} : ∀ {items : List D}, (∀ d ∈ items, ∃ e, asgD t d env = some e ∧ c e M = .ok (p d) M ∧ (p d = true → el e M = .ok (q d) M)) →
    compGo t c el env items M = .ok ((items.filter p).map q) M
  | [], _ => rfl
  | d :: r, h => by
    obtain ⟨e, h1, h2, h3⟩ := h d List.mem_cons_self
    have ih := comp_pure (items := r) (fun d hd => h d (List.mem_cons_of_mem _ hd))
    unfold compGo
    rw [h1]
    dsimp only
    rw [h2]
    show (if p d = true then ((el e M).calm.bind fun y M2 => (compGo t c el env r M2).bind fun ys M3 => .ok (y :: ys) M3) else compGo t c el env r M) = _
    cases hp : p d with
    | false =>
      rw [if_neg (by decide), ih, List.filter_cons, hp]; rfl
    | true =>
      rw [if_pos rfl, h3 hp]
      show (compGo t c el env r M).bind (fun ys M3 => Res.ok (q d :: ys) M3) = _
      rw [ih, List.filter_cons, hp]; rfl
/-- a for that goes through: a state by the items done -/
theorem for_go {t : Tg} {b : En → Sto → Out} (P : Nat → En → Sto → Prop) {items : List D} (hs : ∀ i d env M, items[i]? = some d → P i env M → ∃ env1 env2 M2, asgD t d env = some env1 ∧ b env1 M = .ok (.nx env2) M2 ∧ P (i + 1) env2 M2) :
    ∀ (k i : Nat) (env : En) (M : Sto), k = items.length - i → i ≤ items.length → P i env M → ∃ env' M', forGo t b (items.drop i) env M = .ok (.nx env') M' ∧ P items.length env' M' := by
  intro k
  induction k with
  | zero =>
    intro i env M hk hi p
    have : i = items.length := by omega
    subst this
    exact ⟨env, M, by rw [List.drop_length]; rfl, p⟩
  | succ k ih =>
    intro i env M hk hi p
    have hlt : i < items.length := by omega
    obtain ⟨env1, env2, M2, h1, h2, h3⟩ := hs i items[i] env M (List.getElem?_eq_getElem hlt) p
    obtain ⟨env', M', h4, h5⟩ := ih (i + 1) env2 M2 (by omega) hlt h3
    refine ⟨env', M', ?_, h5⟩
    rw [List.drop_eq_getElem_cons hlt]
    unfold forGo
    rw [h1]
    dsimp only
    rw [h2]
    exact h4
theorem for_all {t : Tg} {b : En → Sto → Out} (P : Nat → En → Sto → Prop) {items : List D} {env : En} {M : Sto} (h0 : P 0 env M) (hs : ∀ i d env M, items[i]? = some d → P i env M → ∃ env1 env2 M2, asgD t d env = some env1 ∧ b env1 M = .ok (.nx env2) M2 ∧ P (i + 1) env2 M2) :
    ∃ env' M', forGo t b items env M = .ok (.nx env') M' ∧ P items.length env' M' := by
  have h := for_go P hs (items.length - 0) 0 env M rfl (Nat.zero_le _) h0
  rw [List.drop_zero] at h
  exact h
/-- a while, by how often -/
theorem whl_mono {c : En → Sto → Res D} {b : En → Sto → Out} : ∀ {n m : Nat} {env : En} {M : Sto}, n ≤ m → whlN c b n env M ≠ .fail → whlN c b m env M = whlN c b n env M
  | 0, _, _, _, _, h => absurd rfl h
  | n + 1, 0, _, _, h, _ => by omega
  | n + 1, m + 1, env, M, h, hf => by
    unfold whlN at hf ⊢
    cases hc : c env M with
    | fail => rw [hc] at hf; exact absurd rfl hf
    | exc _ _ _ => rfl
    | ok x M1 =>
      rw [hc] at hf
      dsimp only [out_ok] at hf ⊢
      cases x <;> try rfl
      rename_i k
      cases k with
      | false => rfl
      | true =>
        dsimp only at hf ⊢
        cases hb : b env M1 with
        | fail => rfl
        | ok f M2 =>
          rw [hb] at hf
          cases f <;> try rfl
          · exact whl_mono (by omega) hf
          · exact whl_mono (by omega) hf
theorem whl_go {c : En → Sto → Res D} {b : En → Sto → Out} {n : Nat} {env : En} {M : Sto} (h : whlN c b n env M ≠ .fail) : whlGo c b env M = whlN c b n env M := by
  have hx : ∃ n, whlN c b n env M ≠ .fail := ⟨n, h⟩
  unfold whlGo
  rw [dif_pos hx]
  have hc := Classical.choose_spec hx
  by_cases hle : Classical.choose hx ≤ n
  · exact (whl_mono hle hc).symm
  · exact whl_mono (by omega) h
/-! ### operations -/
section
variable {M : Sto} {m : Bool} {xs ys : List D} {i j : Int} {x y : Str} {a b d : D} {env : En}
@[simp] theorem bd_len_tup : biD .len m [.tup xs] M = .ok (.int xs.length) M := rfl
@[simp] theorem bd_len_lst : biD .len m [.lst xs] M = .ok (.int xs.length) M := rfl
@[simp] theorem bd_tuple : biD .tuple m [.lst xs] M = .ok (.tup xs) M := rfl
@[simp] theorem bd_tuple2 : biD .tuple m [.tup xs] M = .ok (.tup xs) M := rfl
@[simp] theorem bd_list : biD .list m [.lst xs] M = newList m xs M := rfl
@[simp] theorem bd_abs : biD .abs m [.int i] M = .ok (.int (if i < 0 then -i else i)) M := rfl
@[simp] theorem bd_int : biD .int m [.int i] M = .ok (.int i) M := rfl
theorem bd_all {bs : List Bool} (h : boolsD xs = some bs) : biD .all m [.lst xs] M = .ok (.bl (bs.all id)) M := by show (ofO (boolsD xs) M).bind _ = _; rw [h]; rfl
theorem bd_any {bs : List Bool} (h : boolsD xs = some bs) : biD .any m [.lst xs] M = .ok (.bl (bs.any id)) M := by show (ofO (boolsD xs) M).bind _ = _; rw [h]; rfl
theorem bd_sum {bs : List Int} (h : intsD xs = some bs) : biD .sum m [.lst xs] M = .ok (.int bs.sum) M := by show (ofO (intsD xs) M).bind _ = _; rw [h]; rfl
theorem bools_true {α : Type} : ∀ (l : List α), boolsD (l.map fun _ => D.bl true) = some (l.map fun _ => true)
  | [] => rfl
  | _ :: r => by rw [List.map_cons, boolsD, bools_true r]; rfl
theorem ints_map {α : Type} {f : α → Int} : ∀ (l : List α), intsD (l.map fun x => D.int (f x)) = some (l.map f)
  | [] => rfl
  | _ :: r => by rw [List.map_cons, intsD, ints_map r]; rfl
theorem strs_map {α : Type} {f : α → Str} : ∀ (l : List α), strsD (l.map fun x => D.str (f x)) = some (l.map f)
  | [] => rfl
  | _ :: r => by rw [List.map_cons, strsD, strs_map r]; rfl
/-- all of them True -/
theorem bd_all_true {α : Type} {l : List α} : biD .all m [.lst (l.map fun _ => D.bl true)] M = .ok (.bl true) M := by
  rw [bd_all (bools_true l)]
  congr 2
  rw [List.all_eq_true]
  intro b hb
  obtain ⟨_, _, rfl⟩ := List.mem_map.mp hb
  rfl
@[simp] theorem cm_lt : cmpD M .lt (.int i) (.int j) = some (decide (i < j)) := rfl
@[simp] theorem cm_le : cmpD M .le (.int i) (.int j) = some (decide (i ≤ j)) := rfl
@[simp] theorem cm_gt : cmpD M .gt (.int i) (.int j) = some (decide (j < i)) := rfl
@[simp] theorem cm_ge : cmpD M .ge (.int i) (.int j) = some (decide (j ≤ i)) := rfl
@[simp] theorem cm_ltS : cmpD M .lt (.str x) (.str y) = some (ltStr x y) := rfl
@[simp] theorem cm_eq : cmpD M .eq a b = eqD M a b := rfl
@[simp] theorem cm_ne : cmpD M .ne a b = (eqD M a b).map (!·) := rfl
@[simp] theorem cm_in : cmpD M .inn a b = inD M a b := rfl
@[simp] theorem cm_nin : cmpD M .nin a b = (inD M a b).map (!·) := rfl
@[simp] theorem eq_int : eqD M (.int i) (.int j) = some (decide (i = j)) := rfl
@[simp] theorem eq_str : eqD M (.str x) (.str y) = some (x == y) := rfl
@[simp] theorem eq_bl {p q : Bool} : eqD M (.bl p) (.bl q) = some (p == q) := rfl
@[simp] theorem ty_int : tyOf M (.int i) = some .int := rfl
@[simp] theorem ty_bl {p : Bool} : tyOf M (.bl p) = some .bool := rfl
@[simp] theorem ty_str : tyOf M (.str x) = some .str := rfl
@[simp] theorem ty_tup : tyOf M (.tup xs) = some .tup := rfl
@[simp] theorem ty_lst : tyOf M (.lst xs) = some .lst := rfl
@[simp] theorem ty_non : tyOf M .non = some .non := rfl
@[simp] theorem sub_def {u t : Ty} : subTy u t = (u == t || (u == .bool && t == .int)) := rfl
@[simp] theorem ty_int_bool : (Ty.int == Ty.bool) = false := rfl
@[simp] theorem ty_int_str : (Ty.int == Ty.str) = false := rfl
@[simp] theorem ty_int_tup : (Ty.int == Ty.tup) = false := rfl
@[simp] theorem ty_int_lst : (Ty.int == Ty.lst) = false := rfl
@[simp] theorem ty_int_non : (Ty.int == Ty.non) = false := rfl
@[simp] theorem ty_int_dct : (Ty.int == Ty.dct) = false := rfl
@[simp] theorem ty_bool_int : (Ty.bool == Ty.int) = false := rfl
@[simp] theorem ty_bool_str : (Ty.bool == Ty.str) = false := rfl
@[simp] theorem ty_bool_tup : (Ty.bool == Ty.tup) = false := rfl
@[simp] theorem ty_bool_lst : (Ty.bool == Ty.lst) = false := rfl
@[simp] theorem ty_bool_non : (Ty.bool == Ty.non) = false := rfl
@[simp] theorem ty_bool_dct : (Ty.bool == Ty.dct) = false := rfl
@[simp] theorem ty_str_int : (Ty.str == Ty.int) = false := rfl
@[simp] theorem ty_str_bool : (Ty.str == Ty.bool) = false := rfl
@[simp] theorem ty_str_tup : (Ty.str == Ty.tup) = false := rfl
@[simp] theorem ty_str_lst : (Ty.str == Ty.lst) = false := rfl
@[simp] theorem ty_str_non : (Ty.str == Ty.non) = false := rfl
@[simp] theorem ty_str_dct : (Ty.str == Ty.dct) = false := rfl
@[simp] theorem ty_tup_int : (Ty.tup == Ty.int) = false := rfl
@[simp] theorem ty_tup_bool : (Ty.tup == Ty.bool) = false := rfl
@[simp] theorem ty_tup_str : (Ty.tup == Ty.str) = false := rfl
@[simp] theorem ty_tup_lst : (Ty.tup == Ty.lst) = false := rfl
@[simp] theorem ty_tup_non : (Ty.tup == Ty.non) = false := rfl
@[simp] theorem ty_tup_dct : (Ty.tup == Ty.dct) = false := rfl
@[simp] theorem ty_lst_int : (Ty.lst == Ty.int) = false := rfl
@[simp] theorem ty_lst_bool : (Ty.lst == Ty.bool) = false := rfl
@[simp] theorem ty_lst_str : (Ty.lst == Ty.str) = false := rfl
@[simp] theorem ty_lst_tup : (Ty.lst == Ty.tup) = false := rfl
@[simp] theorem ty_lst_non : (Ty.lst == Ty.non) = false := rfl
@[simp] theorem ty_lst_dct : (Ty.lst == Ty.dct) = false := rfl
@[simp] theorem ty_non_int : (Ty.non == Ty.int) = false := rfl
@[simp] theorem ty_non_bool : (Ty.non == Ty.bool) = false := rfl
@[simp] theorem ty_non_str : (Ty.non == Ty.str) = false := rfl
@[simp] theorem ty_non_tup : (Ty.non == Ty.tup) = false := rfl
@[simp] theorem ty_non_lst : (Ty.non == Ty.lst) = false := rfl
@[simp] theorem ty_non_dct : (Ty.non == Ty.dct) = false := rfl
@[simp] theorem ty_dct_int : (Ty.dct == Ty.int) = false := rfl
@[simp] theorem ty_dct_bool : (Ty.dct == Ty.bool) = false := rfl
@[simp] theorem ty_dct_str : (Ty.dct == Ty.str) = false := rfl
@[simp] theorem ty_dct_tup : (Ty.dct == Ty.tup) = false := rfl
@[simp] theorem ty_dct_lst : (Ty.dct == Ty.lst) = false := rfl
@[simp] theorem ty_dct_non : (Ty.dct == Ty.non) = false := rfl
@[simp] theorem ix_tup : idxD M (.tup xs) (.int i) = itemAt xs i := rfl
@[simp] theorem ix_lst : idxD M (.lst xs) (.int i) = itemAt xs i := rfl
@[simp] theorem it_0 {α : Type} {a : α} {r : List α} : itemAt (a :: r) 0 = some a := by
  have h : ixN (r.length + 1) 0 = some 0 := by unfold ixN; rw [if_pos (by omega), if_pos (by omega)]; rfl
  show (ixN (a :: r).length 0).bind _ = _
  rw [List.length_cons, h]; rfl
@[simp] theorem it_1 {α : Type} {a b : α} {r : List α} : itemAt (a :: b :: r) 1 = some b := by
  have h : ixN (r.length + 1 + 1) 1 = some 1 := by unfold ixN; rw [if_pos (by omega), if_pos (by omega)]; rfl
  show (ixN (a :: b :: r).length 1).bind _ = _
  rw [List.length_cons, List.length_cons, h]; rfl
theorem it_last {α : Type} {l : List α} {a : α} : itemAt (l ++ [a]) (-1) = some a := by
  show (ixN (l ++ [a]).length (-1)).bind _ = _
  have h : ixN (l ++ [a]).length (-1) = some l.length := by
    rw [List.length_append]
    unfold ixN
    rw [if_neg (by omega), if_pos (by simp; omega)]
    simp
    omega
  rw [h]
  show (l ++ [a])[l.length]? = _
  simp
@[simp] theorem wk_tup : walkD (.tup xs) = some xs := rfl
@[simp] theorem wk_lst : walkD (.lst xs) = some xs := rfl
@[simp] theorem wk_scr : walkD (.scr xs) = some xs := rfl
@[simp] theorem ag_n {k : Nat} : asgD (.n k) d env = some (env.set k (some d)) := rfl
@[simp] theorem ag_t {is : List Nat} : asgD (.t is) (.tup xs) env = asgN is xs env := rfl
@[simp] theorem ag_p {is : List Nat} : asgD (.t is) (.pr xs) env = asgN is xs env := rfl
@[simp] theorem ag_nil : asgN [] [] env = some env := rfl
@[simp] theorem ag_cons {k : Nat} {is : List Nat} : asgN (k :: is) (d :: xs) env = asgN is xs (env.set k (some d)) := rfl
@[simp] theorem wp_nil : wipeE env [] = env := rfl
@[simp] theorem wp_cons {k : Nat} {is : List Nat} : wipeE env (k :: is) = (wipeE env is).set k none := rfl
@[simp] theorem bn_add : binD .add (.int i) (.int j) M = .ok (.int (i + j)) M := rfl
@[simp] theorem bn_sub : binD .sub (.int i) (.int j) M = .ok (.int (i - j)) M := rfl
theorem bn_mul (h : mulOk i j = true) : binD .mul (.int i) (.int j) M = .ok (.int (i * j)) M := by show (if mulOk i j then _ else _) = _; rw [if_pos h]
theorem bn_div (h : divOk j = true) : binD .fdiv (.int i) (.int j) M = .ok (.int (i / j)) M := by show (if divOk j then _ else _) = _; rw [if_pos h]
theorem bn_mod (h : 0 < j) : binD .mod (.int i) (.int j) M = .ok (.int (i % j)) M := by show (if decide (0 < j) then _ else _) = _; rw [if_pos (decide_eq_true h)]
theorem bn_cat (h : fitLen (xs.length + ys.length) = true) : binD .add (.lst xs) (.lst ys) M = .ok (.lst (xs ++ ys)) M := by show (if fitLen _ then _ else _) = _; rw [if_pos h]
theorem bn_catT (h : fitLen (xs.length + ys.length) = true) : binD .add (.tup xs) (.tup ys) M = .ok (.tup (xs ++ ys)) M := by show (if fitLen _ then _ else _) = _; rw [if_pos h]
theorem bn_repT (h : 0 < xs.length ∧ 1 ≤ j ∧ xs.length * j.toNat ≤ 1000000) : binD .mul (.tup xs) (.int j) M = .ok (.tup (List.replicate j.toNat xs).flatten) M := by show (if decide (0 < xs.length ∧ 1 ≤ j ∧ xs.length * j.toNat ≤ 1000000) = true then _ else _) = _; rw [if_pos (decide_eq_true h)]
theorem st_lst (h : fitLen (xs.length + 1) = true) : starD d (.lst xs) M = .ok (.tup (d :: xs)) M := by show (if fitLen _ then _ else _) = _; rw [if_pos h]
theorem st_tup (h : fitLen (xs.length + 1) = true) : starD d (.tup xs) M = .ok (.tup (d :: xs)) M := by show (if fitLen _ then _ else _) = _; rw [if_pos h]
theorem sl_tup {lo hi : Option Int} : slcD m (.tup xs) lo hi M = .ok (.tup (cut xs lo hi)) M := rfl
theorem cut_from {α : Type} {l : List α} {k : Nat} : cut l (some (k : Int)) none = l.drop k := by
  unfold cut
  rw [HT.sIx_nat, HT.sIx_none]
  by_cases h : k ≤ l.length
  · rw [Nat.min_eq_left h]
    exact List.take_of_length_le (by rw [List.length_drop]; omega)
  · rw [Nat.min_eq_right (by omega), List.drop_eq_nil_of_le (by omega), List.drop_eq_nil_of_le (by omega), List.take_nil]
theorem cut_to {α : Type} {l : List α} {k : Nat} : cut l none (some (k : Int)) = l.take k := by
  unfold cut
  rw [HT.sIx_nat, HT.sIx_none, List.drop_zero, Nat.sub_zero]
  by_cases h : k ≤ l.length
  · rw [Nat.min_eq_left h]
  · rw [Nat.min_eq_right (by omega), List.take_of_length_le (by omega), List.take_of_length_le (by omega)]
end
/-! ### what changes -/
section
variable {M : Sto} {n : Nat} {xs ys : List D} {kvs : List (Key × D)} {d v : D} {x : Str} {i : Int}
theorem kd_get (h : M[n]? = some (.dct kvs)) : kindM .get M (.loc n) = true := by simp only [kindM, h]
theorem kd_append (h : M[n]? = some (.lst xs)) : kindM .append M (.loc n) = true := by simp only [kindM, h]
theorem kd_pop (h : M[n]? = some (.lst xs)) : kindM .pop M (.loc n) = true := by simp only [kindM, h]
theorem md_get (h : M[n]? = some (.dct kvs)) : mthD .get (.loc n) [.str x, d] M = .ok ((getK kvs (Sum.inr x)).getD d) M := by simp only [mthD, h]
theorem md_append (h : M[n]? = some (.lst xs)) (hl : xs.length ≤ 1000000) : mthD .append (.loc n) [d] M = .ok .non (M.set n (.lst (xs ++ [d]))) := by
  have hf : fitLen xs.length = true := decide_eq_true hl
  simp only [mthD, h]
  rw [if_pos hf]
theorem md_pop (h : M[n]? = some (.lst (xs ++ [d]))) : mthD .pop (.loc n) [] M = .ok d (M.set n (.lst xs)) := by
  simp only [mthD, h]
  rw [List.getLast?_append]
  simp
theorem frz_at (h : M[n]? = some (.lst xs)) : frzD (.loc n) M = .ok (.lst xs) (M.set n .dead) := by simp only [frzD, h]
theorem kd_popAt (h : M[n]? = some (.lst xs)) : kindM .popAt M (.loc n) = true := by simp only [kindM, h]
theorem kd_extend (h : M[n]? = some (.lst xs)) : kindM .extend M (.loc n) = true := by simp only [kindM, h]
theorem md_extend (h : M[n]? = some (.lst xs)) (hl : xs.length + ys.length ≤ 1000000) : mthD .extend (.loc n) [.lst ys] M = .ok .non (M.set n (.lst (xs ++ ys))) := by
  have hf : fitLen (xs.length + ys.length) = true := decide_eq_true hl
  simp only [mthD, h]
  rw [if_pos hf]
theorem md_popAt {k : Nat} (h : M[n]? = some (.lst xs)) (hk : xs[k]? = some d) (hl : xs.length ≤ 1000000) : mthD .popAt (.loc n) [.int k] M = .ok d (M.set n (.lst (xs.eraseIdx k))) := by
  obtain ⟨h1, _⟩ := List.getElem?_eq_some_iff.mp hk
  have hd : decide ((0 : Int) ≤ (k : Int) ∧ (k : Int) < xs.length ∧ xs.length ≤ 1000000) = true := decide_eq_true ⟨by omega, by omega, hl⟩
  simp only [mthD, h]
  rw [if_pos hd]
  simp [hk]
theorem si_dct (h : M[n]? = some (.dct kvs)) (hl : kvs.length ≤ 1000000) : setIx (.loc n) (.str x) v M = .ok () (M.set n (.dct (putD (Sum.inr x) v kvs))) := by
  have hf : fitLen kvs.length = true := decide_eq_true hl
  simp only [setIx, h]
  rw [if_pos hf]
theorem si_lst (h : M[n]? = some (.lst xs)) (hi : 0 ≤ i ∧ i < xs.length) : setIx (.loc n) (.int i) v M = .ok () (M.set n (.lst (xs.set i.toNat v))) := by
  simp only [setIx, h]
  rw [if_pos (decide_eq_true hi)]
theorem ix_loc (h : M[n]? = some (.lst xs)) : idxD M (.loc n) (.int i) = itemAt xs i := by simp only [idxD, h]
theorem ix_dct (h : M[n]? = some (.dct kvs)) : idxD M (.loc n) (.str x) = getK kvs (Sum.inr x) := by simp only [idxD, h]
theorem in_dct (h : M[n]? = some (.dct kvs)) : inD M (.str x) (.loc n) = some (kvs.any fun kv => decide (kv.1 = Sum.inr x)) := by simp only [inD, h]
theorem bd_list_dct {m : Bool} (h : M[n]? = some (.dct kvs)) : biD .list m [.loc n] M = newList m (kvs.map fun kv => keyD kv.1) M := by simp only [biD, h]
theorem bd_sorted_dct {m : Bool} {bs : List Str} (h : M[n]? = some (.dct kvs)) (hb : strsD (kvs.map fun kv => keyD kv.1) = some bs) (hl : bs.length ≤ 1000000) : biD .sorted m [.loc n] M = newList m ((sortStr bs).map .str) M := by
  simp only [biD, h, hb, ofO_some, bind_ok]
  have hf : fitLen bs.length = true := decide_eq_true hl
  rw [if_pos hf]
theorem bd_sorted {m : Bool} {bs : List Str} (hl : bs.length ≤ 1000000) : biD .sorted m [.lst (bs.map .str)] M = newList m ((sortStr bs).map .str) M := by
  have hb : strsD (bs.map D.str) = some bs := by have := strs_map (f := fun x => x) bs; simpa using this
  simp only [biD, hb, ofO_some, bind_ok]
  have hf : fitLen bs.length = true := decide_eq_true hl
  rw [if_pos hf]
theorem bd_sset {m : Bool} {bs : List Str} (hl : bs.length < 2000) : biD .sset m [.lst (bs.map .str)] M = newList m ((sortStr (dedupStr bs)).map .str) M := by
  have hb : strsD (bs.map D.str) = some bs := by have := strs_map (f := fun x => x) bs; simpa using this
  simp only [biD, hb, ofO_some, bind_ok]
  rw [if_pos hl]
theorem bd_dict {m : Bool} (h : pairsK xs = some kvs) : biD .dict m [.tup xs] M = .ok (.loc M.length) (M ++ [.dct (kvs.foldl (fun a kv => putD kv.1 kv.2 a) [])]) := by
  simp only [biD, asSeq, h, ofO_some, bind_ok]
theorem at_last {o : MO} : (M ++ [o])[M.length]? = some o := by simp
theorem set_last {o u : MO} : (M ++ [o]).set M.length u = M ++ [u] := by simp
end
end Z


/-! Z22: module names that hold tuples: looked at in the head. -/
namespace Z
open PySem L2 PySem.Spec PyProof.Rows
mutual
/-- does a value of the module's heap stand for d? so deep at most -/
def gdB (K : PySem.W.Frag) : D → Value → Bool
  | .non, .none => true
  | .bl b, .bool c => b == c
  | .int i, .int j _ => decide (i = j)
  | .str x, .str y _ => decide (x = y)
  | .tup xs, .ref a => (match K.lookup a with
    | some ⟨.type c, none, .seq its _, _⟩ => decide (c = "tuple") && decide (its.size ≤ sizeLine) && gdsB K xs its.toList
    | _ => false)
  | _, _ => false
def gdsB (K : PySem.W.Frag) : List D → List Value → Bool
  | [], [] => true
  | x :: xs, u :: us => gdB K x u && gdsB K xs us
  | _, _ => false
end
mutual
theorem gd_ok {K : PySem.W.Frag} : ∀ {d : D} {u : Value}, gdB K d u = true → ∃ v, RelV v u ∧ ∀ H al ρ, RD K H al ρ d v
  | .non, u, h => by
    cases u <;> unfold gdB at h <;> first | exact ⟨.non, rfl, fun _ _ _ => .non⟩ | cases h
  | .bl b, u, h => by
    cases u <;> unfold gdB at h <;> try (cases h; done)
    rw [eq_of_beq h]
    exact ⟨.bl _, rfl, fun _ _ _ => .bl _⟩
  | .int b, u, h => by
    cases u <;> unfold gdB at h <;> try (cases h; done)
    rw [of_decide_eq_true h]
    exact ⟨.int _, ⟨_, rfl⟩, fun _ _ _ => .int _⟩
  | .str b, u, h => by
    cases u <;> unfold gdB at h <;> try (cases h; done)
    rw [of_decide_eq_true h]
    exact ⟨.str _, ⟨_, rfl⟩, fun _ _ _ => .str _⟩
  | .tup xs, u, h => by
    cases u <;> unfold gdB at h <;> try (cases h; done)
    split at h <;> try (cases h; done)
    rename_i a o c its n sl e
    simp only [Bool.and_eq_true, decide_eq_true_eq] at h
    obtain ⟨⟨h1, h2⟩, h3⟩ := h
    obtain ⟨vs, r, q⟩ := gds_ok h3
    subst h1
    exact ⟨.ref a, rfl, fun H al ρ => .tupK e ⟨rfl, rfl⟩ rfl h2 r (by rw [r.length, Array.length_toList]; exact h2) (q H al ρ)⟩
  | .lst _, u, h => by cases u <;> unfold gdB at h <;> cases h
  | .scr _, u, h => by cases u <;> unfold gdB at h <;> cases h
  | .loc _, u, h => by cases u <;> unfold gdB at h <;> cases h
  | .pr _, u, h => by cases u <;> unfold gdB at h <;> cases h
theorem gds_ok {K : PySem.W.Frag} : ∀ {ds : List D} {us : List Value}, gdsB K ds us = true → ∃ vs, Vals vs us ∧ ∀ H al ρ, RDs K H al ρ ds vs
  | [], [], _ => ⟨[], .nil, fun _ _ _ => .nil⟩
  | [], _ :: _, h => by unfold gdsB at h; cases h
  | _ :: _, [], h => by unfold gdsB at h; cases h
  | d :: ds, u :: us, h => by
    unfold gdsB at h
    rw [Bool.and_eq_true] at h
    obtain ⟨v, r, q⟩ := gd_ok h.1
    obtain ⟨vs, rs, qs⟩ := gds_ok h.2
    exact ⟨v :: vs, .cons r rs, fun H al ρ => .cons (q H al ρ) (qs H al ρ)⟩
end
/-- a module name and the tuple that it holds -/
abbrev GT : Type := String × D
def gtB (K : PySem.W.Frag) (g : GT) : Bool := match PySem.W.nsIn K mainGlobals (Str.ofString g.1) with
  | some (some u) => gdB K g.2 u
  | _ => false
theorem gt_ok {K : PySem.W.Frag} {h : Heap} {mg : Str → Option Value} {g : GT} (X : K.In h) (G : h.Ns mainGlobals mg) (c : gtB K g = true) : ∃ v u, mg (Str.ofString g.1) = some u ∧ RelV v u ∧ ∀ H al ρ, RD K H al ρ g.2 v := by
  unfold gtB at c
  split at c <;> try (cases c; done)
  rename_i u e
  obtain ⟨v, r, q⟩ := gd_ok c
  exact ⟨v, u, PySem.W.mg_of X G e, r, q⟩
/-! ### classes of errors -/
def initFdB (file : Str) (K : PySem.W.Frag) (C : Addr) (fd : FuncData) : Bool :=
  decide (fd.name = "__init__") && decide (fd.globals = mainGlobals) && decide (fd.builtins = builtinsNs) && (match fd.defaults with
    | .none => true
    | _ => false) && (match fd.body with
    | .stmts b => initB b
    | _ => false) && initP fd.params && initSc fd.scope && PySem.W.codeIn K fd.code fd.qualname && (match fd.closure with
    | [(x, cc)] => decide (x = "__class__") && (match K.lookup cc with
      | some ⟨_, _, .cell (some (.ref D)), _⟩ => decide (D = C)
      | _ => false)
    | _ => false) && (match fd.code with
    | .ref cda => (match K.lookup cda with
      | some ⟨_, _, .fields vs, _⟩ => (match (vs[2]? : Option Value) with
        | some (.str f _) => file == f
        | _ => false)
      | _ => false)
    | _ => false)
def clsB (K : PySem.W.Frag) (C : Addr) : Bool := match K.lookup C with
  | some ⟨.type t, _, .cls cd, sl⟩ => decide (t = "type") && (match cd.mro, sl.toList with
    | .ref C' :: bm, [_, _, _, _, some (.builtin n), _] => decide (C' = C) && decide (n = "ValueError.__new__") && cd.hasDict && !cd.hasDel && HandSPX.refsVE bm
    | _, _ => false)
  | _ => false
def xcB (file : Str) (K : PySem.W.Frag) (c : String) : Bool :=
  He.eqO (PySem.W.nsIn K mainGlobals (Str.ofString c)) (some (some (.ref (He.ga K (Str.ofString c))))) && clsB K (He.ga K (Str.ofString c)) &&
  He.eqO (PySem.W.findIn K (.ref (He.ga K (Str.ofString c))) "__setattr__") (some (some (.builtin "object.__setattr__"))) && decide (PySem.W.subIn K (.ref (He.ga K (Str.ofString c))) (.type "BaseException") = some true) && decide (PySem.W.typeIn K (.ref (He.ga K (Str.ofString c))) = some (.type "type")) &&
  PySem.W.keepIn K (.ref (He.ga K (Str.ofString c))) && xfB K (He.ga K (Str.ofString c)) && He.eqO (PySem.W.findIn K (.ref (He.ga K (Str.ofString c))) "at") (some none) &&
  He.eqO (PySem.W.findIn K (.ref (He.ga K (Str.ofString c))) "__init__") (some (some (.ref (He.ma K (He.ga K (Str.ofString c)) "__init__")))) && decide (PySem.W.typeIn K (.ref (He.ma K (He.ga K (Str.ofString c)) "__init__")) = some (.type "function")) &&
  (match K.lookup (He.ma K (He.ga K (Str.ofString c)) "__init__") with
    | some ⟨_, _, .func fd, _⟩ => initFdB file K (He.ga K (Str.ofString c)) fd
    | _ => false) &&
  He.eqO (PySem.W.ks_superIn K (He.ga K (Str.ofString c)) (He.ga K (Str.ofString c)) "__init__") (some (some (.builtin "ValueError.__init__"))) && decide (PySem.W.mroIn K (He.ga K (Str.ofString c)) (.ref (He.ga K (Str.ofString c))) = some true) &&
  decide (PySem.W.subIn K (.ref (He.ga K (Str.ofString c))) (.type "ValueError") = some true) && He.eqO (PySem.W.nsIn K cStatics "thirdparty.any") (some none)
theorem xcB_ok {P : Program} {K : PySem.W.Frag} {c : String} {h : Heap} {mg : Str → Option Value} (X : K.In h) (G : h.Ns mainGlobals mg) (top : (P.main.scope.names.lookup ("super" : Str)).isSome = false) (b : xcB P.main.file K c = true) :
    XcK P K (He.ga K (Str.ofString c)) ∧ mg (Str.ofString c) = some (.ref (He.ga K (Str.ofString c))) := by
  unfold xcB at b
  generalize He.ga K (Str.ofString c) = C at b ⊢
  simp only [Bool.and_eq_true, decide_eq_true_eq] at b
  obtain ⟨⟨⟨⟨⟨⟨⟨⟨⟨⟨⟨⟨⟨⟨b1, b2⟩, b3⟩, b4⟩, b5⟩, b6⟩, b7⟩, b8⟩, b9⟩, b10⟩, b11⟩, b12⟩, b13⟩, b14⟩, b15⟩ := b
  refine ⟨⟨⟨?_, He.eqO_ok b3, b4, b5, b6⟩, xfB_ok b7, He.eqO_ok b8, ?_, He.eqO_ok b12, b13, b14, He.eqO_ok b15, top⟩, PySem.W.mg_of X G (He.eqO_ok b1)⟩
  · unfold clsB at b2
    split at b2 <;> try (cases b2; done)
    rename_i t dd cd sl ho
    rw [Bool.and_eq_true, decide_eq_true_eq] at b2
    obtain ⟨rfl, b2⟩ := b2
    split at b2 <;> try (cases b2; done)
    rename_i C' bm k0 k1 k2 k3 n k5 hm hs
    simp only [Bool.and_eq_true, decide_eq_true_eq, Bool.not_eq_true'] at b2
    obtain ⟨⟨⟨⟨rfl, rfl⟩, hdict⟩, hdel⟩, hr⟩ := b2
    obtain ⟨nm, bs, mro, ns, qn, hd, sn, sub, ab, col, del⟩ := cd
    dsimp only at hm hdel hdict
    subst hm hdel hdict
    have hsl : sl = #[k0, k1, k2, k3, some (.builtin "ValueError.__new__"), k5] := by
      obtain ⟨l⟩ := sl
      simp only at hs
      rw [hs]
    subst hsl
    exact ⟨nm, qn, ns, bs, bm, sn, sub, ab, col, dd, k0, k1, k2, k3, k5, ho, hr⟩
  · generalize He.ma K C "__init__" = fI at b9 b10 b11
    split at b11 <;> try (cases b11; done)
    rename_i oc od fd osl ho
    obtain ⟨n1, n2, n3, n4, n5, n6, n7, n8, n9, n10, n11, n12, n13, n14, n15⟩ := fd
    unfold initFdB at b11
    simp only [Bool.and_eq_true, decide_eq_true_eq] at b11
    obtain ⟨⟨⟨⟨⟨⟨⟨⟨⟨c1, c2⟩, c3⟩, c4⟩, c5⟩, c6⟩, c7⟩, c8⟩, c9⟩, c10⟩ := b11
    subst c1 c2 c3
    split at c4 <;> try (cases c4; done)
    split at c5 <;> try (cases c5; done)
    split at c9 <;> try (cases c9; done)
    split at c10 <;> try (cases c10; done)
    rename_i body _ x cc _ cda
    rw [Bool.and_eq_true, decide_eq_true_eq] at c9
    obtain ⟨rfl, c9⟩ := c9
    split at c9 <;> try (cases c9; done)
    rename_i cl dd D sl e1
    split at c10 <;> try (cases c10; done)
    rename_i cl2 dd2 vs sl2 e2
    split at c10 <;> try (cases c10; done)
    rename_i file' tf e3
    have c9 := of_decide_eq_true c9
    subst c9
    exact ⟨fI, cda, cc, n2, n3, body, n5, n9, n10, n11, n14, oc, n12, od, osl, He.eqO_ok b9, b10, ho, c8, c5, c6, c7, ⟨cl2, dd2, vs, sl2, file', tf, e2, e3, c10⟩, ⟨cl, dd, sl, e1⟩⟩
/-! ### tables of code objects -/
def codeB (K : PySem.W.Frag) (c P : Addr) : Bool := match K.lookup c with
  | some ⟨.type t, _, .fields vs, _⟩ => decide (t = "code") && (match (vs[11]? : Option Value) with
      | some (.ref Q) => decide (Q = P)
      | _ => false) && (match vs.getD 18 .none with
      | .str _ _ => true
      | _ => false) && (match vs.getD 7 .none with
      | .int _ _ => true
      | _ => false) && (match vs.getD 9 .none with
      | .bool _ => true
      | _ => false) && (match vs.getD 10 .none with
      | .int _ _ => true
      | _ => false) && decide (c ≠ P)
  | _ => false
theorem codeB_ok {K : PySem.W.Frag} {c P : Addr} {h : Heap} (X : K.In h) (b : codeB K c P = true) : PySem.W.CodeHd h c P := by
  unfold codeB at b
  split at b <;> try (cases b; done)
  rename_i t dd vs sl ho
  simp only [Bool.and_eq_true, decide_eq_true_eq] at b
  obtain ⟨⟨⟨⟨⟨⟨rfl, b1⟩, b2⟩, b3⟩, b4⟩, b5⟩, b6⟩ := b
  split at b1 <;> try (cases b1; done)
  split at b2 <;> try (cases b2; done)
  split at b3 <;> try (cases b3; done)
  split at b4 <;> try (cases b4; done)
  split at b5 <;> try (cases b5; done)
  rename_i Q e1 _ file tf e2 _ fl tg e3 _ inF e4 _ tx tt e5
  have b1 := of_decide_eq_true b1
  subst b1
  refine ⟨_, vs, file, tf, fl, tg, inF, tx, tt, X _ _ ho, rfl, rfl, e1, ?_, e2, e3, e4, e5, b6⟩
  rw [Array.getD_eq_getD_getElem?, e1]; rfl
def tabO (KB : PySem.W.Frag) (P : Addr) : Bool := match KB.lookup P with
  | some ⟨.none, none, .fields vs, sl⟩ => decide (vs.size = 0) && decide (sl.size = 0)
  | _ => false
theorem tabO_ok {KB : PySem.W.Frag} {P : Addr} {h : Heap} (X : KB.In h) (b : tabO KB P = true) : h.get? P = some { cls := .none, data := .fields #[] } := by
  unfold tabO at b
  split at b <;> try (cases b; done)
  rename_i vs sl ho
  rw [Bool.and_eq_true, decide_eq_true_eq, decide_eq_true_eq] at b
  have e1 : vs = #[] := Array.eq_empty_of_size_eq_zero b.1
  have e2 : sl = #[] := Array.eq_empty_of_size_eq_zero b.2
  subst e1 e2
  exact X _ _ ho
def tabsB (KB K : PySem.W.Frag) : Bool := (csK K).all (fun p => tabO KB p.2.1 && (K.lookup p.2.1).isNone && codeB K p.1 p.2.1) && (tbK K).all fun p => (tbK K).all fun q => !decide (p.1 = q.1) || decide (p.2 = q.2)
/-- the lambdas of a global def -/
def lamB (K : PySem.W.Frag) (x : Str) : Bool := (csK K).any fun p => match K.lookup (He.ga K x) with
  | some ⟨_, _, .func fd, _⟩ => (match fd.code with
    | .ref c => decide (p.1 = c) && decide (p.2.2 = (x ++ (".<locals>." : Str)) ++ ("<lambda>" : Str))
    | _ => false)
  | _ => false
theorem lamB_ok {K : PySem.W.Frag} {x : Str} {qual : Str} {params : Arguments} {body : List Stmt} {scope : Scope} {dvs : List V} {kws : List (Str × V)} {fd : FuncData} (F : FunD K x qual params body scope dvs kws (He.ga K x) fd) (b : lamB K x = true) : ∃ c P, fd.code = .ref c ∧ (c, P, (x ++ (".<locals>." : Str)) ++ ("<lambda>" : Str)) ∈ csK K := by
  obtain ⟨oc, od, dV, kV, doc, pm, an, cdv, ct, osl, rfl, lk, h4, h5⟩ := F.ex
  clear h4 h5
  unfold lamB at b
  rw [List.any_eq_true] at b
  obtain ⟨p, hp, b⟩ := b
  rw [lk] at b
  dsimp only at b
  split at b <;> try (cases b; done)
  rename_i c
  rw [Bool.and_eq_true, decide_eq_true_eq, decide_eq_true_eq] at b
  obtain ⟨p1, P, p2⟩ := p
  obtain ⟨e1, e2⟩ := b
  have e1 : p1 = c := e1
  have e2 : p2 = _ := e2
  subst e1 e2
  exact ⟨p1, P, rfl, hp⟩
/-! ### the hook -/
structure HX where
  file : Str
  xs : List String
  ls : List String
def hxB (x : HX) (KB K : PySem.W.Frag) : Bool := x.xs.all (xcB x.file K) && (x.xs.all fun a => x.xs.all fun b => decide (PySem.W.exmOne K (.ref (He.ga K (Str.ofString a))) (.ref (He.ga K (Str.ofString b))) = some (decide (a = b)))) && tabsB KB K && x.ls.all fun y => lamB K (Str.ofString y)
abbrev AlZ : Type := He.AlD × Bool × Bool
def obsZ (fa : List He.Fa) (fn : List He.DefD) (gt : List GT) (x : HX) (KB K : PySem.W.Frag) : AlZ := (He.obsD fa fn K, gt.all (gtB K), hxB x KB K)
def valZ (fn : List He.DefD) : AlZ := (He.valD fn, true, true)
def SaysZ (fa : List He.Fa) (fn : List He.DefD) (gt : List GT) (x : HX) (KB K : PySem.W.Frag) : Prop := obsZ fa fn gt x KB K = valZ fn
/-- what lies at a is no table -/
def noTab (g : Addr → Option Obj) (a : Addr) : Bool := match g a with
  | some ⟨.none, none, .fields vs, _⟩ => !decide (vs.size = 0)
  | _ => true
def obsZG (n : Nat) (fa : List He.Fa) (fn : List He.DefD) (gt : List GT) (x : HX) (g : Addr → Option Obj) : AlZ := obsZ fa fn gt x (He.frG g (cStatics :: He.asD g n)) (He.frG g ((cStatics :: He.asD g n).filter (noTab g)))
def hookZ (n : Nat) (fa : List He.Fa) (fn : List He.DefD) (gt : List GT) (x : HX) : PySem.W.Hook where
  α := AlZ
  obs s := obsZG n fa fn gt x s.heap.get?
  val _ := valZ fn
  says _ h := ∃ KB K : PySem.W.Frag, KB.In h ∧ K.In h ∧ SaysZ fa fn gt x KB K
  of _ _ e := ⟨_, _, He.frG_in, He.frG_in, e⟩
  keeps _ _ _ y k := by obtain ⟨KB, K, hB, hK, c⟩ := y; exact ⟨KB, K, PySem.W.Frag.In.keeps hB k, PySem.W.Frag.In.keeps hK k, c⟩
theorem obsZG_eq {n : Nat} {fa : List He.Fa} {fn : List He.DefD} {gt : List GT} {x : HX} {g : Addr → Option Obj} {s : Shared} (h : ∀ a, g a = s.heap.get? a) : obsZG n fa fn gt x g = (hookZ n fa fn gt x).obs s := by
  rw [show g = s.heap.get? from funext h]; rfl
section
variable {fa : List He.Fa} {fn : List He.DefD} {gt : List GT} {xx : HX} {KB K : PySem.W.Frag}
theorem SaysZ.d (c : SaysZ fa fn gt xx KB K) : He.SaysD fa fn K := congrArg Prod.fst c
theorem SaysZ.t (c : SaysZ fa fn gt xx KB K) (i : Nat) {g : GT} (h : gt[i]? = some g := by rfl) : gtB K g = true :=
  List.all_eq_true.mp (show gt.all (gtB K) = true from congrArg (fun z : AlZ => z.2.1) c) g (List.mem_of_getElem? h)
theorem SaysZ.hx (c : SaysZ fa fn gt xx KB K) : hxB xx KB K = true := congrArg (fun z : AlZ => z.2.2) c
theorem SaysZ.err (c : SaysZ fa fn gt xx KB K) {P : Program} {h : Heap} {mg : Str → Option Value} (X : K.In h) (G : h.Ns mainGlobals mg) (top : (P.main.scope.names.lookup ("super" : Str)).isSome = false) (hf : xx.file = P.main.file) : ErrOk P K mg (fun c => He.ga K (Str.ofString c)) xx.xs := by
  have b := c.hx
  unfold hxB at b
  simp only [Bool.and_eq_true, List.all_eq_true, decide_eq_true_eq] at b
  exact ⟨fun c hc => xcB_ok X G top (by rw [← hf]; exact b.1.1.1 c hc), fun c hc c' hc' => b.1.1.2 c hc c' hc'⟩
theorem SaysZ.tabs (c : SaysZ fa fn gt xx KB K) {h : Heap} (XB : KB.In h) (X : K.In h) : (∀ p ∈ csK K, h.get? p.2.1 = some { cls := .none, data := .fields #[] } ∧ K.lookup p.2.1 = none ∧ PySem.W.CodeHd h p.1 p.2.1) ∧ ∀ p ∈ tbK K, ∀ p' ∈ tbK K, p.1 = p'.1 → p.2 = p'.2 := by
  have b := c.hx
  unfold hxB tabsB at b
  simp only [Bool.and_eq_true, List.all_eq_true] at b
  refine ⟨fun p hp => ?_, fun p hp q hq e => ?_⟩
  · obtain ⟨⟨h1, h2⟩, h3⟩ := b.1.2.1 p hp
    exact ⟨tabO_ok XB h1, Option.isNone_iff_eq_none.mp h2, codeB_ok X h3⟩
  · have h1 := b.1.2.2 p hp q hq
    rw [decide_eq_true e] at h1
    simpa using h1
theorem SaysZ.lam (c : SaysZ fa fn gt xx KB K) {y : String} (hy : y ∈ xx.ls) : lamB K (Str.ofString y) = true := by
  have b := c.hx
  unfold hxB at b
  simp only [Bool.and_eq_true, List.all_eq_true] at b
  exact b.2 y hy
end
end Z


/-! K06T: the defs of the law in the small language (printed by zprint.py). -/
namespace Z
namespace K06T
open PySem
def f_is_unknown_c0 : E :=
(.boo false (.cons (.cmp .inn (.var 1) (.gl "LETTERS" (.str "abcdefghijklmnopqrstuvwxyz"))) (.cons (.cmp .inn (.var 1) (.gl "DIGITS" (.str "0123456789"))) (.cons (.cmp .inn (.var 1) (.gl "MARKS" (.str "._#"))) .nil))))
def f_is_unknown : Fn := ⟨1, 2,
  (.cons (.iff (.boo false (.cons (.not (.isi (.var 0) true [.str])) (.cons (.not (.chain .le .le (.cst (.int 1)) (.bi .len false (.cons (.var 0) .nil)) (.gl "MOST_UNKNOWN" (.int 60)))) .nil)))
    ((.cons (.ret (.som (.cst (.bl false))))
      .nil))
    .nil)
  (.cons (.ret (.som (.boo true (.cons (.cmp .inn (.idx (.var 0) (.cst (.int 0))) (.gl "LETTERS" (.str "abcdefghijklmnopqrstuvwxyz"))) (.cons (.bi .all false (.cons (.comp false f_is_unknown_c0 (.n 1) (.sq (.var 0)) .non [1]) .nil)) .nil)))))
  .nil)), true, 0⟩
def f_are_ascending_c0 : E :=
(.cmp .lt (.var 1) (.var 2))
def f_are_ascending : Fn := ⟨1, 3,
  (.cons (.ret (.som (.bi .all false (.cons (.comp false f_are_ascending_c0 (.t [1, 2]) (.zip (.var 0) (.slc false (.var 0) (.som (.cst (.int 1))) .non)) .non [1, 2]) .nil))))
  .nil), true, 0⟩
def f_is_integer : Fn := ⟨1, 1,
  (.cons (.ret (.som (.boo true (.cons (.isi (.var 0) true [.int]) (.cons (.not (.isi (.var 0) true [.bool])) .nil)))))
  .nil), true, 0⟩
def f_are_worths_b0 : Ss :=
  (.cons (.iff (.boo false (.cons (.not (.isi (.var 2) true [.tup])) (.cons (.cmp .ne (.bi .len false (.cons (.var 2) .nil)) (.cst (.int 2))) (.cons (.not (.call "is_unknown" (.cons (.idx (.var 2) (.cst (.int 0))) .nil))) (.cons (.not (.call "is_integer" (.cons (.idx (.var 2) (.cst (.int 1))) .nil))) .nil)))))
    ((.cons (.ret (.som (.cst (.bl false))))
      .nil))
    .nil)
  .nil)
def f_are_worths_c0 : E :=
(.idx (.var 2) (.cst (.int 0)))
def f_are_worths : Fn := ⟨2, 3,
  (.cons (.iff (.boo false (.cons (.not (.isi (.var 0) true [.tup])) (.cons (.cmp .gt (.bi .len false (.cons (.var 0) .nil)) (.var 1)) .nil)))
    ((.cons (.ret (.som (.cst (.bl false))))
      .nil))
    .nil)
  (.cons (.for_ (.n 2) (.sq (.var 0)) f_are_worths_b0)
  (.cons (.ret (.som (.call "are_ascending" (.cons (.comp false f_are_worths_c0 (.n 2) (.sq (.var 0)) .non [2]) .nil))))
  .nil))), true, 0⟩
def f_is_form_c0 : E :=
(.cmp .ne (.idx (.var 1) (.cst (.int 1))) (.cst (.int 0)))
def f_is_form : Fn := ⟨1, 2,
  (.cons (.iff (.boo false (.cons (.not (.isi (.var 0) true [.tup])) (.cons (.cmp .ne (.bi .len false (.cons (.var 0) .nil)) (.cst (.int 2))) (.cons (.not (.call "is_integer" (.cons (.idx (.var 0) (.cst (.int 0))) .nil))) .nil))))
    ((.cons (.ret (.som (.cst (.bl false))))
      .nil))
    .nil)
  (.cons (.ret (.som (.boo true (.cons (.call "are_worths" (.cons (.idx (.var 0) (.cst (.int 1))) (.cons (.gl "MOST_UNKNOWNS" (.int 200)) .nil))) (.cons (.bi .all false (.cons (.comp false f_is_form_c0 (.n 1) (.sq (.idx (.var 0) (.cst (.int 1)))) .non [1]) .nil)) .nil)))))
  .nil)), true, 0⟩
def f_checked_form : Fn := ⟨2, 2,
  (.cons (.iff (.not (.call "is_form" (.cons (.var 0) .nil)))
    ((.cons (.rais "InvalidForm" (.cons (.var 1) .nil))
      .nil))
    .nil)
  .nil), true, 0⟩
def f_checked_worths : Fn := ⟨2, 2,
  (.cons (.iff (.not (.call "are_worths" (.cons (.var 0) (.cons (.gl "MOST_WORTHS" (.int 2000)) .nil))))
    ((.cons (.rais "InvalidValue" (.cons (.var 1) .nil))
      .nil))
    .nil)
  .nil), true, 0⟩
def f_form_of_k0 : E :=
(.cmp .ne (.idx (.var 1) (.var 2)) (.cst (.int 0)))
def f_form_of_c0 : E :=
(.tup (.cons (.var 2) (.cons (.idx (.var 1) (.var 2)) .nil)))
def f_form_of : Fn := ⟨2, 3,
  (.cons (.ret (.som (.tup (.cons (.var 0) (.cons (.bi .tuple false (.cons (.comp false f_form_of_c0 (.n 2) (.sq (.bi .sorted false (.cons (.bi .list false (.cons (.var 1) .nil)) .nil))) (.som f_form_of_k0) [2]) .nil)) .nil)))))
  .nil), true, 0⟩
def f_unknown : Fn := ⟨1, 1,
  (.cons (.ret (.som (.tup (.cons (.cst (.int 0)) (.cons (.tup (.cons (.tup (.cons (.var 0) (.cons (.cst (.int 1)) .nil))) .nil)) .nil)))))
  .nil), true, 0⟩
def f_sum_of_b0 : Ss :=
  (.cons (.asgIx (.var 2) (.var 5) (.bin .add (.mth .get (.var 2) (.cons (.var 5) (.cons (.cst (.int 0)) .nil))) (.bin .mul (.var 6) (.var 4))))
  .nil)
def f_sum_of_b1 : Ss :=
  (.cons (.aug 1 .add (.bin .mul (.idx (.var 3) (.cst (.int 0))) (.var 4)))
  (.cons (.for_ (.t [5, 6]) (.sq (.idx (.var 3) (.cst (.int 1)))) f_sum_of_b0)
  .nil))
def f_sum_of : Fn := ⟨1, 7,
  (.cons (.asg (.t [1, 2]) (.tup (.cons (.cst (.int 0)) (.cons .dic0 .nil))))
  (.cons (.for_ (.t [3, 4]) (.sq (.var 0)) f_sum_of_b1)
  (.cons (.ret (.som (.call "form_of" (.cons (.var 1) (.cons (.var 2) .nil)))))
  .nil))), true, 0⟩
def f_factor_in_b0 : Ss :=
  (.cons (.iff (.cmp .eq (.var 2) (.var 1))
    ((.cons (.ret (.som (.var 3)))
      .nil))
    .nil)
  .nil)
def f_factor_in : Fn := ⟨2, 4,
  (.cons (.for_ (.t [2, 3]) (.sq (.idx (.var 0) (.cst (.int 1)))) f_factor_in_b0)
  (.cons (.ret (.som (.cst (.int 0))))
  .nil)), true, 0⟩
def f_worth_of_c0 : E :=
(.bin .mul (.var 3) (.mth .get (.var 1) (.cons (.var 2) (.cons (.cst (.int 0)) .nil))))
def f_worth_of : Fn := ⟨2, 4,
  (.cons (.ret (.som (.bin .add (.idx (.var 0) (.cst (.int 0))) (.bi .sum false (.cons (.comp false f_worth_of_c0 (.t [2, 3]) (.sq (.idx (.var 0) (.cst (.int 1)))) .non [2, 3]) .nil)))))
  .nil), true, 0⟩
def f_worth : Fn := ⟨2, 2,
  (.cons (.ex (.call "checked_form" (.cons (.var 0) (.cons (.cst (.int 0)) .nil))))
  (.cons (.ex (.call "checked_worths" (.cons (.var 1) (.cons (.cst (.int 1)) .nil))))
  (.cons (.ret (.som (.call "worth_of" (.cons (.var 0) (.cons (.bi .dict false (.cons (.var 1) .nil)) .nil)))))
  .nil))), true, 0⟩
def f_put_for : Fn := ⟨3, 4,
  (.cons (.ex (.call "checked_form" (.cons (.var 0) (.cons (.cst (.int 0)) .nil))))
  (.cons (.iff (.not (.call "is_unknown" (.cons (.var 1) .nil)))
    ((.cons (.rais "InvalidQuestion" (.cons (.cst (.int 1)) .nil))
      .nil))
    .nil)
  (.cons (.ex (.call "checked_form" (.cons (.var 2) (.cons (.cst (.int 2)) .nil))))
  (.cons (.asg (.n 3) (.call "exchanged" (.cons (.var 0) (.cons (.var 1) (.cons (.var 2) .nil)))))
  (.cons (.iff (.not (.call "is_form" (.cons (.var 3) .nil)))
    ((.cons (.rais "Refused" (.cons (.gl "MOST_UNKNOWNS" (.int 200)) .nil))
      .nil))
    .nil)
  (.cons (.ret (.som (.var 3)))
  .nil)))))), true, 0⟩
def f_exchanged_k0 : E :=
(.cmp .ne (.idx (.var 5) (.cst (.int 0))) (.var 1))
def f_exchanged_c0 : E :=
(.var 5)
def f_exchanged : Fn := ⟨3, 6,
  (.cons (.asg (.n 3) (.call "factor_in" (.cons (.var 0) (.cons (.var 1) .nil))))
  (.cons (.asg (.n 4) (.tup (.cons (.idx (.var 0) (.cst (.int 0))) (.cons (.bi .tuple false (.cons (.comp false f_exchanged_c0 (.n 5) (.sq (.idx (.var 0) (.cst (.int 1)))) (.som f_exchanged_k0) [5]) .nil)) .nil))))
  (.cons (.ret (.som (.call "sum_of" (.cons (.lst false (.cons (.tup (.cons (.var 4) (.cons (.cst (.int 1)) .nil))) (.cons (.tup (.cons (.var 2) (.cons (.var 3) .nil))) .nil))) .nil))))
  .nil))), true, 0⟩
def f_below_nought : Fn := ⟨1, 1,
  (.cons (.ret (.som (.call "sum_of" (.cons (.lst false (.cons (.tup (.cons (.var 0) (.cons (.neg (.cst (.int 1))) .nil))) (.cons (.tup (.cons (.tup (.cons (.neg (.cst (.int 1))) (.cons (.tup .nil) .nil))) (.cons (.cst (.int 1)) .nil))) .nil))) .nil))))
  .nil), true, 0⟩
def f_inner_formulas : Fn := ⟨1, 2,
  (.cons (.iff (.boo false (.cons (.not (.isi (.var 0) true [.tup])) (.cons (.cmp .eq (.var 0) (.tup .nil)) (.cons (.not (.isi (.idx (.var 0) (.cst (.int 0))) true [.str])) .nil))))
    ((.cons (.ret (.som (.tup (.cons (.tup .nil) (.cons (.cst (.bl false)) .nil)))))
      .nil))
    .nil)
  (.cons (.asg (.n 1) (.idx (.var 0) (.cst (.int 0))))
  (.cons (.iff (.cmp .inn (.var 1) (.tup (.cons (.cst (.str "yes")) (.cons (.cst (.str "no")) .nil))))
    ((.cons (.ret (.som (.tup (.cons (.tup .nil) (.cons (.cmp .eq (.bi .len false (.cons (.var 0) .nil)) (.cst (.int 1))) .nil)))))
      .nil))
    .nil)
  (.cons (.iff (.cmp .eq (.var 1) (.cst (.str "fact")))
    ((.cons (.ret (.som (.tup (.cons (.tup .nil) (.cons (.boo true (.cons (.cmp .eq (.bi .len false (.cons (.var 0) .nil)) (.cst (.int 2))) (.cons (.call "is_form" (.cons (.idx (.var 0) (.cst (.int 1))) .nil)) .nil))) .nil)))))
      .nil))
    .nil)
  (.cons (.ret (.som (.tup (.cons (.slc false (.var 0) (.som (.cst (.int 1))) .non) (.cons (.boo true (.cons (.cmp .inn (.var 1) (.tup (.cons (.cst (.str "and")) (.cons (.cst (.str "or")) .nil)))) (.cons (.cmp .gt (.bi .len false (.cons (.var 0) .nil)) (.cst (.int 2))) .nil))) .nil)))))
  .nil))))), true, 0⟩
def f_is_formula_w0 : E :=
(.cmp .ne (.var 1) (.lst false .nil))
def f_is_formula_c0 : E :=
(.tup (.cons (.var 7) (.cons (.bin .add (.var 4) (.cst (.int 1))) .nil)))
def f_is_formula_b0 : Ss :=
  (.cons (.asg (.t [3, 4]) (.mth .pop (.var 1) .nil))
  (.cons (.asg (.t [5, 6]) (.call "inner_formulas" (.cons (.var 3) .nil)))
  (.cons (.aug 2 .add (.cst (.int 1)))
  (.cons (.iff (.boo false (.cons (.not (.var 6)) (.cons (.cmp .gt (.var 4) (.gl "MOST_DEEP" (.int 40))) (.cons (.cmp .gt (.bin .add (.var 2) (.bi .len false (.cons (.var 5) .nil))) (.gl "MOST_PARTS" (.int 4000))) .nil))))
    ((.cons (.ret (.som (.cst (.bl false))))
      .nil))
    .nil)
  (.cons (.ex (.mth .extend (.var 1) (.cons (.comp false f_is_formula_c0 (.n 7) (.sq (.var 5)) .non [7]) .nil)))
  .nil)))))
def f_is_formula : Fn := ⟨1, 8,
  (.cons (.asg (.t [1, 2]) (.tup (.cons (.lst true (.cons (.tup (.cons (.var 0) (.cons (.cst (.int 1)) .nil))) .nil)) (.cons (.cst (.int 0)) .nil))))
  (.cons (.whl f_is_formula_w0 f_is_formula_b0)
  (.cons (.ret (.som (.cst (.bl true))))
  .nil))), true, 0⟩
def f_checked_formula : Fn := ⟨2, 2,
  (.cons (.iff (.not (.call "is_formula" (.cons (.var 0) .nil)))
    ((.cons (.rais "InvalidFormula" (.cons (.var 1) .nil))
      .nil))
    .nil)
  .nil), true, 0⟩
def f_facts_in_w0 : E :=
(.cmp .ne (.var 1) (.lst false .nil))
def f_facts_in_b0 : Ss :=
  (.cons (.asg (.n 3) (.mth .pop (.var 1) .nil))
  (.cons (.iff (.cmp .eq (.idx (.var 3) (.cst (.int 0))) (.cst (.str "fact")))
    ((.cons (.ex (.mth .append (.var 2) (.cons (.idx (.var 3) (.cst (.int 1))) .nil)))
      .nil))
    ((.cons (.iff (.cmp .inn (.idx (.var 3) (.cst (.int 0))) (.tup (.cons (.cst (.str "and")) (.cons (.cst (.str "or")) .nil))))
        ((.cons (.ex (.mth .extend (.var 1) (.cons (.rev false (.bi .list false (.cons (.slc false (.var 3) (.som (.cst (.int 1))) .non) .nil))) .nil)))
          .nil))
        .nil)
      .nil)))
  .nil))
def f_facts_in : Fn := ⟨1, 4,
  (.cons (.asg (.t [1, 2]) (.tup (.cons (.lst true (.cons (.var 0) .nil)) (.cons (.lst true .nil) .nil))))
  (.cons (.whl f_facts_in_w0 f_facts_in_b0)
  (.cons (.ret (.som (.frz (.var 2))))
  .nil))), true, 0⟩
def f_unknowns_of_c0 : E :=
(.var 2)
def f_unknowns_of : Fn := ⟨1, 4,
  (.cons (.ex (.call "checked_formula" (.cons (.var 0) (.cons (.cst (.int 0)) .nil))))
  (.cons (.ret (.som (.bi .tuple false (.cons (.bi .sset false (.cons (.comp2 false f_unknowns_of_c0 (.n 1) (.sq (.call "facts_in" (.cons (.var 0) .nil))) .non (.t [2, 3]) (.sq (.idx (.var 1) (.cst (.int 1)))) .non [1, 2, 3] [2, 3]) .nil)) .nil))))
  .nil)), true, 0⟩
def f_is_so_c0 : E :=
(.call "is_so" (.cons (.var 4) (.cons (.var 1) .nil)))
def f_is_so : Fn := ⟨2, 5,
  (.cons (.asg (.n 2) (.idx (.var 0) (.cst (.int 0))))
  (.cons (.iff (.cmp .eq (.var 2) (.cst (.str "fact")))
    ((.cons (.ret (.som (.cmp .ge (.call "worth_of" (.cons (.idx (.var 0) (.cst (.int 1))) (.cons (.var 1) .nil))) (.cst (.int 0)))))
      .nil))
    .nil)
  (.cons (.iff (.cmp .inn (.var 2) (.tup (.cons (.cst (.str "yes")) (.cons (.cst (.str "no")) .nil))))
    ((.cons (.ret (.som (.cmp .eq (.var 2) (.cst (.str "yes")))))
      .nil))
    .nil)
  (.cons (.asg (.n 3) (.comp false f_is_so_c0 (.n 4) (.sq (.slc false (.var 0) (.som (.cst (.int 1))) .non)) .non [4]))
  (.cons (.ret (.som (.ite (.cmp .eq (.var 2) (.cst (.str "and"))) (.bi .all false (.cons (.var 3) .nil)) (.bi .any false (.cons (.var 3) .nil)))))
  .nil))))), true, 0⟩
def f_holds : Fn := ⟨2, 2,
  (.cons (.ex (.call "checked_formula" (.cons (.var 0) (.cons (.cst (.int 0)) .nil))))
  (.cons (.ex (.call "checked_worths" (.cons (.var 1) (.cons (.cst (.int 1)) .nil))))
  (.cons (.ret (.som (.call "is_so" (.cons (.var 0) (.cons (.bi .dict false (.cons (.var 1) .nil)) .nil)))))
  .nil))), true, 0⟩
def f_turned_round_c0 : E :=
(.call "turned_round" (.cons (.var 2) .nil))
def f_turned_round : Fn := ⟨1, 3,
  (.cons (.asg (.n 1) (.idx (.var 0) (.cst (.int 0))))
  (.cons (.iff (.cmp .eq (.var 1) (.cst (.str "fact")))
    ((.cons (.ret (.som (.tup (.cons (.cst (.str "fact")) (.cons (.call "below_nought" (.cons (.idx (.var 0) (.cst (.int 1))) .nil)) .nil)))))
      .nil))
    .nil)
  (.cons (.iff (.cmp .inn (.var 1) (.tup (.cons (.cst (.str "yes")) (.cons (.cst (.str "no")) .nil))))
    ((.cons (.ret (.som (.ite (.cmp .eq (.var 1) (.cst (.str "yes"))) (.gl "NO" (.tup [.str "no"])) (.gl "YES" (.tup [.str "yes"])))))
      .nil))
    .nil)
  (.cons (.ret (.som (.tstar (.ite (.cmp .eq (.var 1) (.cst (.str "and"))) (.cst (.str "or")) (.cst (.str "and"))) (.comp false f_turned_round_c0 (.n 2) (.sq (.slc false (.var 0) (.som (.cst (.int 1))) .non)) .non [2]))))
  .nil)))), true, 0⟩
def f_opposite : Fn := ⟨1, 1,
  (.cons (.ex (.call "checked_formula" (.cons (.var 0) (.cons (.cst (.int 0)) .nil))))
  (.cons (.ret (.som (.call "turned_round" (.cons (.var 0) .nil))))
  .nil)), true, 0⟩
def f_with_form_c0 : E :=
(.call "with_form" (.cons (.var 3) (.cons (.var 1) (.cons (.var 2) .nil))))
def f_with_form : Fn := ⟨3, 4,
  (.cons (.iff (.cmp .eq (.idx (.var 0) (.cst (.int 0))) (.cst (.str "fact")))
    ((.cons (.ret (.som (.tup (.cons (.cst (.str "fact")) (.cons (.call "exchanged" (.cons (.idx (.var 0) (.cst (.int 1))) (.cons (.var 1) (.cons (.var 2) .nil)))) .nil)))))
      .nil))
    .nil)
  (.cons (.iff (.cmp .inn (.idx (.var 0) (.cst (.int 0))) (.tup (.cons (.cst (.str "yes")) (.cons (.cst (.str "no")) .nil))))
    ((.cons (.ret (.som (.var 0)))
      .nil))
    .nil)
  (.cons (.ret (.som (.tstar (.idx (.var 0) (.cst (.int 0))) (.comp false f_with_form_c0 (.n 3) (.sq (.slc false (.var 0) (.som (.cst (.int 1))) .non)) .non [3]))))
  .nil))), true, 0⟩
def f_put_in : Fn := ⟨3, 4,
  (.cons (.ex (.call "checked_formula" (.cons (.var 0) (.cons (.cst (.int 0)) .nil))))
  (.cons (.iff (.not (.call "is_unknown" (.cons (.var 1) .nil)))
    ((.cons (.rais "InvalidQuestion" (.cons (.cst (.int 1)) .nil))
      .nil))
    .nil)
  (.cons (.ex (.call "checked_form" (.cons (.var 2) (.cons (.cst (.int 2)) .nil))))
  (.cons (.asg (.n 3) (.call "with_form" (.cons (.var 0) (.cons (.var 1) (.cons (.var 2) .nil)))))
  (.cons (.ex (.call "checked_formula" (.cons (.var 3) (.cons (.cst (.int 0)) .nil))))
  (.cons (.ret (.som (.var 3)))
  .nil)))))), true, 0⟩
def f_all_of_k0 : E :=
(.cmp .ne (.var 2) (.gl "YES" (.tup [.str "yes"])))
def f_all_of_c0 : E :=
(.var 2)
def f_all_of : Fn := ⟨1, 3,
  (.cons (.asg (.n 1) (.comp false f_all_of_c0 (.n 2) (.sq (.var 0)) (.som f_all_of_k0) [2]))
  (.cons (.iff (.cmp .inn (.gl "NO" (.tup [.str "no"])) (.var 1))
    ((.cons (.ret (.som (.gl "NO" (.tup [.str "no"]))))
      .nil))
    .nil)
  (.cons (.ret (.som (.ite (.cmp .gt (.bi .len false (.cons (.var 1) .nil)) (.cst (.int 1))) (.tstar (.cst (.str "and")) (.var 1)) (.ite (.cmp .ne (.var 1) (.lst false .nil)) (.idx (.var 1) (.cst (.int 0))) (.gl "YES" (.tup [.str "yes"]))))))
  .nil))), true, 0⟩
def f_some_of_k0 : E :=
(.cmp .ne (.var 2) (.gl "NO" (.tup [.str "no"])))
def f_some_of_c0 : E :=
(.var 2)
def f_some_of : Fn := ⟨1, 3,
  (.cons (.asg (.n 1) (.comp false f_some_of_c0 (.n 2) (.sq (.var 0)) (.som f_some_of_k0) [2]))
  (.cons (.iff (.cmp .inn (.gl "YES" (.tup [.str "yes"])) (.var 1))
    ((.cons (.ret (.som (.gl "YES" (.tup [.str "yes"]))))
      .nil))
    .nil)
  (.cons (.ret (.som (.ite (.cmp .gt (.bi .len false (.cons (.var 1) .nil)) (.cst (.int 1))) (.tstar (.cst (.str "or")) (.var 1)) (.ite (.cmp .ne (.var 1) (.lst false .nil)) (.idx (.var 1) (.cst (.int 0))) (.gl "NO" (.tup [.str "no"]))))))
  .nil))), true, 0⟩
def f_law_draw_c0 : E :=
(.bi .abs false (.cons (.bi .int false (.cons (.var 4) .nil)) .nil))
def f_law_draw_b0 : Ss :=
  (.cons (.asg (.n 3) (.bin .mod (.bi .int false (.cons (.bin .add (.bin .add (.bin .mul (.var 3) (.cst (.int 48271))) (.bin .mod (.var 4) (.cst (.int 2147483549)))) (.cst (.int 11))) .nil)) (.cst (.int 2147483647))))
  .nil)
def f_law_draw_k0 : E :=
(.cmp .ge (.var 4) (.bin .pow (.cst (.int 10)) (.cst (.int 18))))
def f_law_draw_c1 : E :=
(.var 4)
def f_law_draw : Fn := ⟨2, 5,
  (.cons (.asg (.n 2) (.comp false f_law_draw_c0 (.n 4) (.sq (.slc false (.var 0) .non (.som (.cst (.int 48))))) .non [4]))
  (.cons (.asg (.n 3) (.bin .add (.cst (.int 7919)) (.bin .mul (.cst (.int 104729)) (.var 1))))
  (.cons (.for_ (.n 4) (.sq (.var 2)) f_law_draw_b0)
  (.cons (.ret (.som (.lst true (.cons (.rev true (.comp false f_law_draw_c1 (.n 4) (.sq (.var 2)) (.som f_law_draw_k0) [4])) (.cons (.var 3) .nil)))))
  .nil)))), false, 0⟩
def f_law_any_w0 : E :=
(.boo true (.cons (.cmp .ne (.idx (.var 0) (.cst (.int 0))) (.lst false .nil)) (.cons (.cmp .eq (.idx (.idx (.var 0) (.cst (.int 0))) (.neg (.cst (.int 1)))) (.cst (.int 0))) .nil)))
def f_law_any_b0 : Ss :=
  (.cons (.ex (.mth .pop (.idx (.var 0) (.cst (.int 0))) .nil))
  .nil)
def f_law_any : Fn := ⟨2, 3,
  (.cons (.whl f_law_any_w0 f_law_any_b0)
  (.cons (.iff (.cmp .ne (.idx (.var 0) (.cst (.int 0))) (.lst false .nil))
    ((.cons (.asg (.n 2) (.bi .int false (.cons (.mth .pop (.idx (.var 0) (.cst (.int 0))) .nil) .nil)))
      (.cons (.ex (.mth .append (.idx (.var 0) (.cst (.int 0))) (.cons (.bin .fdiv (.var 2) (.var 1)) .nil)))
      (.cons (.ret (.som (.bin .mod (.var 2) (.var 1))))
      .nil))))
    .nil)
  (.cons (.asgIx (.var 0) (.cst (.int 1)) (.bin .mod (.bi .int false (.cons (.bin .add (.bin .mul (.idx (.var 0) (.cst (.int 1))) (.cst (.int 40693))) (.cst (.int 71))) .nil)) (.cst (.int 2147483647))))
  (.cons (.ret (.som (.bin .mod (.bi .int false (.cons (.bin .fdiv (.idx (.var 0) (.cst (.int 1))) (.cst (.int 64))) .nil)) (.var 1))))
  .nil)))), false, 0⟩
def f_law_of : Fn := ⟨2, 2,
  (.cons (.ret (.som (.idx (.var 1) (.call "_law_any" (.cons (.var 0) (.cons (.bi .len false (.cons (.var 1) .nil)) .nil))))))
  .nil), false, 0⟩
def f_law_mixed_w0 : E :=
(.cmp .ne (.var 2) (.lst false .nil))
def f_law_mixed_b0 : Ss :=
  (.cons (.ex (.mth .append (.var 3) (.cons (.mth .popAt (.var 2) (.cons (.call "_law_any" (.cons (.var 0) (.cons (.bi .len false (.cons (.var 2) .nil)) .nil))) .nil)) .nil)))
  .nil)
def f_law_mixed : Fn := ⟨2, 4,
  (.cons (.asg (.t [2, 3]) (.tup (.cons (.bi .list true (.cons (.var 1) .nil)) (.cons (.lst true .nil) .nil))))
  (.cons (.whl f_law_mixed_w0 f_law_mixed_b0)
  (.cons (.ret (.som (.frz (.var 3))))
  .nil))), false, 0⟩
def f_law_same_k0 : E :=
(.not (.call "_law_same" (.cons (.var 2) (.cons (.var 3) .nil))))
def f_law_same_c0 : E :=
(.cst (.int 0))
def f_law_same : Fn := ⟨2, 4,
  (.cons (.iff (.isi (.var 1) false [.tup, .lst])
    ((.cons (.iff (.boo false (.cons (.cmp .ne (.isi (.var 1) true [.tup]) (.isi (.var 0) true [.tup])) (.cons (.not (.isi (.var 0) false [.tup, .lst])) (.cons (.cmp .ne (.bi .len false (.cons (.var 0) .nil)) (.bi .len false (.cons (.var 1) .nil))) .nil))))
        ((.cons (.ret (.som (.cst (.bl false))))
          .nil))
        .nil)
      (.cons (.ret (.som (.cmp .eq (.comp false f_law_same_c0 (.t [2, 3]) (.zip (.var 0) (.var 1)) (.som f_law_same_k0) [2, 3]) (.lst false .nil))))
      .nil)))
    .nil)
  (.cons (.iff (.isN false (.var 1))
    ((.cons (.ret (.som (.isN false (.var 0))))
      .nil))
    .nil)
  (.cons (.iff (.isB false true (.var 1))
    ((.cons (.ret (.som (.isB false true (.var 0))))
      .nil))
    .nil)
  (.cons (.iff (.isB false false (.var 1))
    ((.cons (.ret (.som (.isB false false (.var 0))))
      .nil))
    .nil)
  (.cons (.iff (.isi (.var 1) true [.int])
    ((.cons (.ret (.som (.boo true (.cons (.isi (.var 0) true [.int]) (.cons (.not (.isi (.var 0) true [.bool])) (.cons (.cmp .eq (.var 0) (.var 1)) .nil))))))
      .nil))
    .nil)
  (.cons (.ret (.som (.boo true (.cons (.isi (.var 0) true [.str]) (.cons (.cmp .eq (.var 0) (.var 1)) .nil)))))
  .nil)))))), true, 0⟩
def f_law_unknown : Fn := ⟨1, 1,
  (.cons (.ret (.som (.call "_law_of" (.cons (.var 0) (.cons (.lst false (.cons (.cst (.str "x")) (.cons (.cst (.str "y")) (.cons (.cst (.str "z")) (.cons (.cst (.str "a")) (.cons (.cst (.str "a#1")) (.cons (.cst (.str "a#1.2")) (.cons (.cst (.str "r0")) (.cons (.cst (.str "x_2")) (.cons (.bin .add (.bin .add (.cst (.str "n")) (.bin .mul (.cst (.str "0")) (.cst (.int 58)))) (.cst (.str "#"))) .nil)))))))))) .nil)))))
  .nil), false, 0⟩
def f_law_number : Fn := ⟨1, 1,
  (.cons (.ret (.som (.call "_law_of" (.cons (.var 0) (.cons (.lst false (.cons (.cst (.int 0)) (.cons (.cst (.int 1)) (.cons (.cst (.int 2)) (.cons (.cst (.int 3)) (.cons (.neg (.cst (.int 1))) (.cons (.neg (.cst (.int 2))) (.cons (.bin .sub (.call "_law_any" (.cons (.var 0) (.cons (.cst (.int 99)) .nil))) (.cst (.int 50))) (.cons (.call "_law_any" (.cons (.var 0) (.cons (.bin .pow (.cst (.int 10)) (.cst (.int 18))) .nil))) (.cons (.neg (.bin .pow (.cst (.int 10)) (.cst (.int 30)))) .nil)))))))))) .nil)))))
  .nil), false, 0⟩
def f_law_form_c0 : E :=
(.call "_law_unknown" (.cons (.var 0) .nil))
def f_law_form_c1 : E :=
(.tup (.cons (.var 3) (.cons (.call "_law_number" (.cons (.var 0) .nil)) .nil)))
def f_law_form_k0 : E :=
(.cmp .ne (.idx (.var 5) (.cst (.int 1))) (.cst (.int 0)))
def f_law_form_c2 : E :=
(.var 5)
def f_law_form : Fn := ⟨1, 6,
  (.cons (.asg (.n 1) (.bi .sset false (.cons (.comp false f_law_form_c0 (.n 4) (.rng (.cons (.call "_law_any" (.cons (.var 0) (.cons (.cst (.int 4)) .nil))) .nil)) .non [4]) .nil)))
  (.cons (.asg (.n 2) (.comp false f_law_form_c1 (.n 3) (.sq (.var 1)) .non [3]))
  (.cons (.ret (.som (.tup (.cons (.call "_law_number" (.cons (.var 0) .nil)) (.cons (.bi .tuple false (.cons (.comp false f_law_form_c2 (.n 5) (.sq (.var 2)) (.som f_law_form_k0) [5]) .nil)) .nil)))))
  .nil))), false, 0⟩
def f_law_formula_c0 : E :=
(.call "_law_formula" (.cons (.var 0) (.cons (.bin .add (.var 1) (.cst (.int 1))) .nil)))
def f_law_formula : Fn := ⟨2, 5,
  (.cons (.asg (.n 2) (.call "_law_any" (.cons (.var 0) (.cons (.cst (.int 8)) .nil))))
  (.cons (.iff (.boo false (.cons (.cmp .gt (.var 1) (.cst (.int 2))) (.cons (.cmp .lt (.var 2) (.cst (.int 3))) .nil)))
    ((.cons (.ret (.som (.tup (.cons (.cst (.str "fact")) (.cons (.call "_law_form" (.cons (.var 0) .nil)) .nil)))))
      .nil))
    .nil)
  (.cons (.iff (.cmp .eq (.var 2) (.cst (.int 3)))
    ((.cons (.ret (.som (.call "_law_of" (.cons (.var 0) (.cons (.lst false (.cons (.tup (.cons (.cst (.str "yes")) .nil)) (.cons (.tup (.cons (.cst (.str "no")) .nil)) .nil))) .nil)))))
      .nil))
    .nil)
  (.cons (.asg (.n 3) (.call "_law_of" (.cons (.var 0) (.cons (.lst false (.cons (.cst (.str "and")) (.cons (.cst (.str "or")) .nil))) .nil))))
  (.cons (.ret (.som (.bin .add (.tup (.cons (.var 3) .nil)) (.bi .tuple false (.cons (.comp false f_law_formula_c0 (.n 4) (.rng (.cons (.bin .add (.cst (.int 2)) (.call "_law_any" (.cons (.var 0) (.cons (.cst (.int 2)) .nil)))) .nil)) .non [4]) .nil)))))
  .nil))))), false, 0⟩
def f_law_worths_c0 : E :=
(.call "_law_unknown" (.cons (.var 0) .nil))
def f_law_worths_c1 : E :=
(.tup (.cons (.var 2) (.cons (.call "_law_number" (.cons (.var 0) .nil)) .nil)))
def f_law_worths : Fn := ⟨1, 4,
  (.cons (.asg (.n 1) (.bi .sset false (.cons (.comp false f_law_worths_c0 (.n 3) (.rng (.cons (.call "_law_any" (.cons (.var 0) (.cons (.cst (.int 7)) .nil))) .nil)) .non [3]) .nil)))
  (.cons (.ret (.som (.bi .tuple false (.cons (.comp false f_law_worths_c1 (.n 2) (.sq (.var 1)) .non [2]) .nil))))
  .nil)), false, 0⟩
def f_law_worth_b0 : Ss :=
  (.cons (.asg (.n 3) (.bin .add (.var 3) (.bin .mul (.var 5) (.ite (.cmp .inn (.var 4) (.var 2)) (.idx (.var 2) (.var 4)) (.cst (.int 0))))))
  .nil)
def f_law_worth : Fn := ⟨2, 6,
  (.cons (.asg (.t [2, 3]) (.tup (.cons (.bi .dict false (.cons (.var 1) .nil)) (.cons (.idx (.var 0) (.cst (.int 0))) .nil))))
  (.cons (.for_ (.t [4, 5]) (.sq (.idx (.var 0) (.cst (.int 1)))) f_law_worth_b0)
  (.cons (.ret (.som (.var 3)))
  .nil))), true, 0⟩
def f_law_holds_c0 : E :=
(.call "_law_holds" (.cons (.var 3) (.cons (.var 1) .nil)))
def f_law_holds : Fn := ⟨2, 4,
  (.cons (.iff (.cmp .eq (.idx (.var 0) (.cst (.int 0))) (.cst (.str "fact")))
    ((.cons (.ret (.som (.cmp .ge (.call "_law_worth" (.cons (.idx (.var 0) (.cst (.int 1))) (.cons (.var 1) .nil))) (.cst (.int 0)))))
      .nil))
    .nil)
  (.cons (.iff (.cmp .inn (.idx (.var 0) (.cst (.int 0))) (.tup (.cons (.cst (.str "yes")) (.cons (.cst (.str "no")) .nil))))
    ((.cons (.ret (.som (.cmp .eq (.idx (.var 0) (.cst (.int 0))) (.cst (.str "yes")))))
      .nil))
    .nil)
  (.cons (.asg (.n 2) (.comp false f_law_holds_c0 (.n 3) (.sq (.slc false (.var 0) (.som (.cst (.int 1))) .non)) .non [3]))
  (.cons (.ret (.som (.ite (.cmp .eq (.idx (.var 0) (.cst (.int 0))) (.cst (.str "and"))) (.cmp .nin (.cst (.bl false)) (.var 2)) (.cmp .inn (.cst (.bl true)) (.var 2)))))
  .nil)))), true, 0⟩
def f_law_with_c0 : E :=
(.tup (.cons (.var 4) (.cons (.idx (.var 3) (.var 4)) .nil)))
def f_law_with : Fn := ⟨3, 5,
  (.cons (.asg (.n 3) (.bi .dict true (.cons (.var 0) .nil)))
  (.cons (.asgIx (.var 3) (.var 1) (.var 2))
  (.cons (.ret (.som (.bi .tuple false (.cons (.comp false f_law_with_c0 (.n 4) (.sq (.bi .sorted false (.cons (.var 3) .nil))) .non [4]) .nil))))
  .nil))), true, 0⟩
def f_law_renamed_c0 : E :=
(.tup (.cons (.idx (.var 1) (.var 3)) (.cons (.var 4) .nil)))
def f_law_renamed_c1 : E :=
(.call "_law_renamed" (.cons (.var 2) (.cons (.var 1) .nil)))
def f_law_renamed : Fn := ⟨2, 5,
  (.cons (.iff (.cmp .eq (.idx (.var 0) (.cst (.int 0))) (.cst (.str "fact")))
    ((.cons (.ret (.som (.tup (.cons (.cst (.str "fact")) (.cons (.tup (.cons (.idx (.idx (.var 0) (.cst (.int 1))) (.cst (.int 0))) (.cons (.bi .tuple false (.cons (.bi .sortp false (.cons (.comp false f_law_renamed_c0 (.t [3, 4]) (.sq (.idx (.idx (.var 0) (.cst (.int 1))) (.cst (.int 1)))) .non [3, 4]) .nil)) .nil)) .nil))) .nil)))))
      .nil))
    .nil)
  (.cons (.ret (.som (.bin .add (.slc false (.var 0) .non (.som (.cst (.int 1)))) (.bi .tuple false (.cons (.comp false f_law_renamed_c1 (.n 2) (.sq (.slc false (.var 0) (.som (.cst (.int 1))) .non)) .non [2]) .nil)))))
  .nil)), true, 0⟩
def f_law_b0 : Ss :=
  (.cons (.iff (.cmp .eq (.call "_law_any" (.cons (.var 1) (.cons (.cst (.int 3)) .nil))) (.cst (.int 0)))
    ((.cons (.asg (.t [15, 17]) (.tup (.cons (.call "opposite" (.cons (.var 15) .nil)) (.cons (.not (.var 17)) .nil))))
      .nil))
    ((.cons (.asg (.t [18, 12]) (.tup (.cons (.call "_law_unknown" (.cons (.var 1) .nil)) (.cons (.tup (.cons (.bin .sub (.call "_law_any" (.cons (.var 1) (.cons (.cst (.int 9)) .nil))) (.cst (.int 4))) (.cons (.tup (.cons (.tup (.cons (.call "_law_unknown" (.cons (.var 1) .nil)) (.cons (.call "_law_of" (.cons (.var 1) (.cons (.lst false (.cons (.cst (.int 1)) (.cons (.neg (.cst (.int 1))) (.cons (.cst (.int 2)) .nil)))) .nil))) .nil))) .nil)) .nil))) .nil))))
      (.cons (.asg (.t [15, 16]) (.tup (.cons (.call "put_in" (.cons (.var 15) (.cons (.var 18) (.cons (.var 12) .nil)))) (.cons (.bin .add (.var 16) (.lst false (.cons (.tup (.cons (.var 18) (.cons (.var 12) .nil))) .nil))) .nil))))
      .nil))))
  .nil)
def f_law_b1 : Ss :=
  (.cons (.asg (.n 4) (.call "_law_with" (.cons (.var 4) (.cons (.var 18) (.cons (.call "worth" (.cons (.var 12) (.cons (.var 4) .nil))) .nil)))))
  .nil)
def f_law_c0 : E :=
(.tup (.cons (.idx (.var 6) (.var 18)) (.cons (.var 20) .nil)))
def f_law_c1 : E :=
(.idx (.var 6) (.var 18))
def f_law_c2 : E :=
(.call "_law_formula" (.cons (.var 1) (.cons (.cst (.int 1)) .nil)))
def f_law_c3 : E :=
(.call "all_of" (.cons (.lst false (.cons (.var 13) (.cons (.var 19) .nil))) .nil))
def f_law_b2 : Ss :=
  (.cons (.asg (.t [13, 14]) (.tup (.cons (.call "_law_formula" (.cons (.var 1) (.cons (.cst (.int 0)) .nil))) (.cons (.call "_law_worths" (.cons (.var 1) .nil)) .nil))))
  (.cons (.asg (.t [15, 16, 17]) (.tup (.cons (.var 13) (.cons (.lst false .nil) (.cons (.cst (.bl false)) .nil)))))
  (.cons (.for_ (.n 3) (.rng (.cons (.call "_law_of" (.cons (.var 1) (.cons (.lst false (.cons (.cst (.int 2)) (.cons (.cst (.int 4)) (.cons (.cst (.int 6)) .nil)))) .nil))) .nil)) f_law_b0)
  (.cons (.asg (.n 4) (.var 14))
  (.cons (.for_ (.t [18, 12]) (.sq (.rev false (.var 16))) f_law_b1)
  (.cons (.iff (.boo false (.cons (.isB true true (.call "is_formula" (.cons (.var 15) .nil))) (.cons (.not (.call "_law_same" (.cons (.call "holds" (.cons (.var 15) (.cons (.var 14) .nil))) (.cons (.cmp .ne (.call "_law_holds" (.cons (.var 13) (.cons (.var 4) .nil))) (.var 17)) .nil)))) .nil)))
    ((.cons (.ret (.som (.cst (.bl false))))
      .nil))
    .nil)
  (.cons (.asg (.n 5) (.lst false (.cons (.cst (.str "x")) (.cons (.cst (.str "y")) (.cons (.cst (.str "z")) (.cons (.cst (.str "a")) (.cons (.cst (.str "a#1")) (.cons (.cst (.str "a#1.2")) (.cons (.cst (.str "r0")) (.cons (.cst (.str "x_2")) (.cons (.bin .add (.bin .add (.cst (.str "n")) (.bin .mul (.cst (.str "0")) (.cst (.int 58)))) (.cst (.str "#"))) .nil)))))))))))
  (.cons (.asg (.n 6) (.bi .dzip false (.cons (.var 5) (.cons (.call "_law_mixed" (.cons (.var 1) (.cons (.bin .add (.slc false (.var 5) (.som (.cst (.int 3))) .non) (.lst false (.cons (.cst (.str "q7")) (.cons (.cst (.str "q8")) (.cons (.cst (.str "q9")) .nil))))) .nil))) .nil))))
  (.cons (.asg (.n 7) (.bi .tuple false (.cons (.bi .sortp false (.cons (.comp false f_law_c0 (.t [18, 20]) (.sq (.var 14)) .non [18, 20]) .nil)) .nil)))
  (.cons (.asg (.n 8) (.call "_law_renamed" (.cons (.var 13) (.cons (.var 6) .nil))))
  (.cons (.iff (.not (.call "_law_same" (.cons (.lst false (.cons (.call "holds" (.cons (.var 8) (.cons (.var 7) .nil))) (.cons (.bi .list false (.cons (.call "unknowns_of" (.cons (.var 8) .nil)) .nil)) .nil))) (.cons (.lst false (.cons (.call "_law_holds" (.cons (.var 13) (.cons (.var 14) .nil))) (.cons (.bi .sorted false (.cons (.comp false f_law_c1 (.n 18) (.sq (.call "unknowns_of" (.cons (.var 13) .nil))) .non [18]) .nil)) .nil))) .nil))))
    ((.cons (.ret (.som (.cst (.bl false))))
      .nil))
    .nil)
  (.cons (.asg (.n 9) (.comp false f_law_c2 (.n 3) (.rng (.cons (.bin .add (.cst (.int 2)) (.call "_law_any" (.cons (.var 1) (.cons (.cst (.int 3)) .nil)))) .nil)) .non [3]))
  (.cons (.asg (.n 10) (.call "all_of" (.cons (.lst false (.cons (.var 13) (.cons (.call "some_of" (.cons (.var 9) .nil)) .nil))) .nil)))
  (.cons (.asg (.n 11) (.call "some_of" (.cons (.comp false f_law_c3 (.n 19) (.sq (.var 9)) .non [19]) .nil)))
  (.cons (.iff (.not (.call "_law_same" (.cons (.lst false (.cons (.call "holds" (.cons (.var 10) (.cons (.var 14) .nil))) (.cons (.call "holds" (.cons (.call "opposite" (.cons (.var 10) .nil)) (.cons (.var 14) .nil))) .nil))) (.cons (.lst false (.cons (.call "holds" (.cons (.var 11) (.cons (.var 14) .nil))) (.cons (.not (.call "holds" (.cons (.var 11) (.cons (.var 14) .nil)))) .nil))) .nil))))
    ((.cons (.ret (.som (.cst (.bl false))))
      .nil))
    .nil)
  (.cons (.asg (.n 12) (.call "_law_form" (.cons (.var 1) .nil)))
  (.cons (.iff (.isB true true (.call "is_form" (.cons (.call "put_for" (.cons (.var 12) (.cons (.cst (.str "x")) (.cons (.call "unknown" (.cons (.cst (.str "y")) .nil)) .nil)))) .nil)))
    ((.cons (.ret (.som (.cst (.bl false))))
      .nil))
    .nil)
  .nil)))))))))))))))))
def f_law : Fn := ⟨1, 21,
  (.cons (.asg (.n 1) (.call "_law_draw" (.cons (.var 0) (.cons (.cst (.int 6)) .nil))))
  (.cons (.for_ (.n 2) (.rng (.cons (.cst (.int 5)) .nil)) f_law_b2)
  (.cons (.ret (.som (.cst (.bl true))))
  .nil))), false, 0⟩
def tab : List (String × Fn) := [("is_unknown", f_is_unknown), ("are_ascending", f_are_ascending), ("is_integer", f_is_integer), ("are_worths", f_are_worths), ("is_form", f_is_form), ("checked_form", f_checked_form), ("checked_worths", f_checked_worths), ("form_of", f_form_of), ("unknown", f_unknown), ("sum_of", f_sum_of), ("factor_in", f_factor_in), ("worth_of", f_worth_of), ("worth", f_worth), ("put_for", f_put_for), ("exchanged", f_exchanged), ("below_nought", f_below_nought), ("inner_formulas", f_inner_formulas), ("is_formula", f_is_formula), ("checked_formula", f_checked_formula), ("facts_in", f_facts_in), ("unknowns_of", f_unknowns_of), ("is_so", f_is_so), ("holds", f_holds), ("turned_round", f_turned_round), ("opposite", f_opposite), ("with_form", f_with_form), ("put_in", f_put_in), ("all_of", f_all_of), ("some_of", f_some_of), ("_law_draw", f_law_draw), ("_law_any", f_law_any), ("_law_of", f_law_of), ("_law_mixed", f_law_mixed), ("_law_same", f_law_same), ("_law_unknown", f_law_unknown), ("_law_number", f_law_number), ("_law_form", f_law_form), ("_law_formula", f_law_formula), ("_law_worths", f_law_worths), ("_law_worth", f_law_worth), ("_law_holds", f_law_holds), ("_law_with", f_law_with), ("_law_renamed", f_law_renamed), ("law", f_law)]
def T (g : String) : Option Fn := (tab.find? fun p => decide (p.1 = g)).map (·.2)
def mo : Mo := ⟨[("LETTERS", (.str "abcdefghijklmnopqrstuvwxyz")), ("DIGITS", (.str "0123456789")), ("MARKS", (.str "._#")), ("MOST_UNKNOWN", (.int 60)), ("MOST_UNKNOWNS", (.int 200)), ("MOST_WORTHS", (.int 2000)), ("MOST_DEEP", (.int 40)), ("MOST_PARTS", (.int 4000)), ("YES", (.tup [.str "yes"])), ("NO", (.tup [.str "no"]))],
  [("is_unknown", none), ("are_ascending", none), ("is_integer", none), ("are_worths", none), ("is_form", none), ("checked_form", none), ("checked_worths", none), ("form_of", none), ("unknown", none), ("sum_of", none), ("factor_in", none), ("worth_of", none), ("worth", none), ("put_for", none), ("exchanged", none), ("below_nought", none), ("inner_formulas", none), ("is_formula", none), ("checked_formula", none), ("facts_in", none), ("unknowns_of", none), ("is_so", none), ("holds", none), ("turned_round", none), ("opposite", none), ("with_form", none), ("put_in", none), ("all_of", none), ("some_of", none), ("_law_draw", none), ("_law_any", none), ("_law_of", none), ("_law_mixed", none), ("_law_same", none), ("_law_unknown", none), ("_law_number", none), ("_law_form", none), ("_law_formula", none), ("_law_worths", none), ("_law_worth", none), ("_law_holds", none), ("_law_with", none), ("_law_renamed", none), ("law", none)],
  [],
  ["InvalidForm", "InvalidFormula", "InvalidQuestion", "InvalidValue", "Refused"]⟩
end K06T
end Z


/-! the head of the law, its defs' texts checked (printed by zprint.py). -/
namespace Z
namespace K06T
open PySem PySem.Spec PyProof.Rows L2
def top (i : Nat) : Stmt := PySem.Challenge.pw_boundbyproof_k06_whole_rows_of_formulas.main.body.getD i (.Pass ⟨0, 0, 0, 0⟩)
def fD (i : Nat) (x : Str) : He.DefD := ⟨(x, none), x, x, defArgs (top i), defBody (top i), defScope (top i), [], []⟩
def fn : List He.DefD := [fD 12 "is_unknown", fD 13 "are_ascending", fD 15 "is_integer", fD 19 "are_worths", fD 20 "is_form", fD 21 "checked_form", fD 22 "checked_worths", fD 23 "form_of", fD 24 "unknown", fD 25 "sum_of", fD 26 "factor_in", fD 27 "worth_of", fD 28 "worth", fD 29 "put_for", fD 30 "exchanged", fD 31 "below_nought", fD 37 "inner_formulas", fD 38 "is_formula", fD 39 "checked_formula", fD 40 "facts_in", fD 41 "unknowns_of", fD 42 "is_so", fD 43 "holds", fD 44 "turned_round", fD 45 "opposite", fD 46 "with_form", fD 47 "put_in", fD 48 "all_of", fD 49 "some_of", fD 51 "_law_draw", fD 52 "_law_any", fD 53 "_law_of", fD 54 "_law_mixed", fD 55 "_law_same", fD 56 "_law_unknown", fD 57 "_law_number", fD 58 "_law_form", fD 59 "_law_formula", fD 60 "_law_worths", fD 61 "_law_worth", fD 62 "_law_holds", fD 63 "_law_with", fD 64 "_law_renamed", fD 65 "law"]
def fa : List He.Fa := [.glo "is_unknown", .glo "are_ascending", .glo "is_integer", .glo "are_worths", .glo "is_form", .glo "checked_form", .glo "checked_worths", .glo "form_of", .glo "unknown", .glo "sum_of", .glo "factor_in", .glo "worth_of", .glo "worth", .glo "put_for", .glo "exchanged", .glo "below_nought", .glo "inner_formulas", .glo "is_formula", .glo "checked_formula", .glo "facts_in", .glo "unknowns_of", .glo "is_so", .glo "holds", .glo "turned_round", .glo "opposite", .glo "with_form", .glo "put_in", .glo "all_of", .glo "some_of", .glo "_law_draw", .glo "_law_any", .glo "_law_of", .glo "_law_mixed", .glo "_law_same", .glo "_law_unknown", .glo "_law_number", .glo "_law_form", .glo "_law_formula", .glo "_law_worths", .glo "_law_worth", .glo "_law_holds", .glo "_law_with", .glo "_law_renamed", .glo "law", .str "LETTERS" "abcdefghijklmnopqrstuvwxyz", .str "DIGITS" "0123456789", .str "MARKS" "._#", .int "MOST_UNKNOWN" 60, .int "MOST_UNKNOWNS" 200, .int "MOST_WORTHS" 2000, .int "MOST_DEEP" 40, .int "MOST_PARTS" 4000, .free "len", .free "abs", .free "int", .free "all", .free "any", .free "sum", .free "max", .free "min", .free "tuple", .free "list", .free "sorted", .free "dict", .free "str", .free "set", .free "isinstance", .free "range", .free "enumerate", .free "zip", .free "bool", .free "NoneType", .free "super"]
def hx : HX := ⟨PySem.Challenge.pw_boundbyproof_k06_whole_rows_of_formulas.main.file, ["InvalidForm", "InvalidFormula", "InvalidQuestion", "InvalidValue", "Refused"], []⟩
def gt : List GT := [("YES", .tup [.str "yes"]), ("NO", .tup [.str "no"])]
def names0 : List Str := [("ProofError" : Str), ("InvalidForm" : Str), ("InvalidFormula" : Str), ("InvalidValue" : Str), ("InvalidQuestion" : Str), ("Refused" : Str), ("LETTERS" : Str), ("DIGITS" : Str), ("MARKS" : Str), ("MOST_UNKNOWN" : Str), ("is_unknown" : Str), ("are_ascending" : Str), ("is_integer" : Str), ("MOST_UNKNOWNS" : Str), ("MOST_WORTHS" : Str), ("are_worths" : Str), ("is_form" : Str), ("checked_form" : Str), ("checked_worths" : Str), ("form_of" : Str), ("unknown" : Str), ("sum_of" : Str), ("factor_in" : Str), ("worth_of" : Str), ("worth" : Str), ("put_for" : Str), ("exchanged" : Str), ("below_nought" : Str), ("MOST_DEEP" : Str), ("MOST_PARTS" : Str), ("YES" : Str), ("NO" : Str), ("inner_formulas" : Str), ("is_formula" : Str), ("checked_formula" : Str)]
def names1 : List Str := [("facts_in" : Str), ("unknowns_of" : Str), ("is_so" : Str), ("holds" : Str), ("turned_round" : Str), ("opposite" : Str), ("with_form" : Str), ("put_in" : Str), ("all_of" : Str), ("some_of" : Str), ("_law_draw" : Str), ("_law_any" : Str), ("_law_of" : Str), ("_law_mixed" : Str), ("_law_same" : Str), ("_law_unknown" : Str), ("_law_number" : Str), ("_law_form" : Str), ("_law_formula" : Str), ("_law_worths" : Str), ("_law_worth" : Str), ("_law_holds" : Str), ("_law_with" : Str), ("_law_renamed" : Str)]
def names : List Str := names0 ++ names1
abbrev R : PySem.W.OpenRow := PySem.W.OpenLaw.row PySem.Challenge.rw_boundbyproof_k06_whole_rows_of_formulas
abbrev hk : PySem.W.Hook := hookZ 5 fa fn gt hx
def ob (s : PySem.W.SharedT) : AlZ := obsZG 5 fa fn gt hx (HandSHeadRun.getT s)
theorem ob_eq (s : PySem.W.SharedT) : ob s = hk.obs s.abs := obsZG_eq (HandSHeadRun.getT_eq s)
theorem run (w : World) : HandSHeadRun.RunEq R (PySem.W.view R.prog [65]) hk ob 4000 names w := by
  intro os
  kernel_rfl
def N_is_unknown : List Str := ["value", "sign"]
def P_is_unknown : List Str := ["value"]
theorem sc_is_unknown : FnScope N_is_unknown P_is_unknown (defScope (top 12)) := ⟨by decide +kernel, by decide +kernel, by decide +kernel, by decide +kernel, by decide +kernel, by decide +kernel, by decide +kernel⟩
theorem ck_is_unknown : chkSs (moOf mo f_is_unknown.low) ⟨N_is_unknown, defScope (top 12), fun _ => true⟩ f_is_unknown.body (defBody (top 12)) = true := by decide +kernel
def N_are_ascending : List Str := ["names", "one", "other"]
def P_are_ascending : List Str := ["names"]
theorem sc_are_ascending : FnScope N_are_ascending P_are_ascending (defScope (top 13)) := ⟨by decide +kernel, by decide +kernel, by decide +kernel, by decide +kernel, by decide +kernel, by decide +kernel, by decide +kernel⟩
theorem ck_are_ascending : chkSs (moOf mo f_are_ascending.low) ⟨N_are_ascending, defScope (top 13), fun _ => true⟩ f_are_ascending.body (defBody (top 13)) = true := by decide +kernel
def N_is_integer : List Str := ["value"]
def P_is_integer : List Str := ["value"]
theorem sc_is_integer : FnScope N_is_integer P_is_integer (defScope (top 15)) := ⟨by decide +kernel, by decide +kernel, by decide +kernel, by decide +kernel, by decide +kernel, by decide +kernel, by decide +kernel⟩
theorem ck_is_integer : chkSs (moOf mo f_is_integer.low) ⟨N_is_integer, defScope (top 15), fun _ => true⟩ f_is_integer.body (defBody (top 15)) = true := by decide +kernel
def N_are_worths : List Str := ["value", "most", "one"]
def P_are_worths : List Str := ["value", "most"]
theorem sc_are_worths : FnScope N_are_worths P_are_worths (defScope (top 19)) := ⟨by decide +kernel, by decide +kernel, by decide +kernel, by decide +kernel, by decide +kernel, by decide +kernel, by decide +kernel⟩
theorem ck_are_worths : chkSs (moOf mo f_are_worths.low) ⟨N_are_worths, defScope (top 19), fun _ => true⟩ f_are_worths.body (defBody (top 19)) = true := by decide +kernel
def N_is_form : List Str := ["value", "one"]
def P_is_form : List Str := ["value"]
theorem sc_is_form : FnScope N_is_form P_is_form (defScope (top 20)) := ⟨by decide +kernel, by decide +kernel, by decide +kernel, by decide +kernel, by decide +kernel, by decide +kernel, by decide +kernel⟩
theorem ck_is_form : chkSs (moOf mo f_is_form.low) ⟨N_is_form, defScope (top 20), fun _ => true⟩ f_is_form.body (defBody (top 20)) = true := by decide +kernel
def N_checked_form : List Str := ["form", "at"]
def P_checked_form : List Str := ["form", "at"]
theorem sc_checked_form : FnScope N_checked_form P_checked_form (defScope (top 21)) := ⟨by decide +kernel, by decide +kernel, by decide +kernel, by decide +kernel, by decide +kernel, by decide +kernel, by decide +kernel⟩
theorem ck_checked_form : chkSs (moOf mo f_checked_form.low) ⟨N_checked_form, defScope (top 21), fun _ => true⟩ f_checked_form.body (defBody (top 21)) = true := by decide +kernel
def N_checked_worths : List Str := ["worths", "at"]
def P_checked_worths : List Str := ["worths", "at"]
theorem sc_checked_worths : FnScope N_checked_worths P_checked_worths (defScope (top 22)) := ⟨by decide +kernel, by decide +kernel, by decide +kernel, by decide +kernel, by decide +kernel, by decide +kernel, by decide +kernel⟩
theorem ck_checked_worths : chkSs (moOf mo f_checked_worths.low) ⟨N_checked_worths, defScope (top 22), fun _ => true⟩ f_checked_worths.body (defBody (top 22)) = true := by decide +kernel
def N_form_of : List Str := ["constant", "factors", "name"]
def P_form_of : List Str := ["constant", "factors"]
theorem sc_form_of : FnScope N_form_of P_form_of (defScope (top 23)) := ⟨by decide +kernel, by decide +kernel, by decide +kernel, by decide +kernel, by decide +kernel, by decide +kernel, by decide +kernel⟩
theorem ck_form_of : chkSs (moOf mo f_form_of.low) ⟨N_form_of, defScope (top 23), fun _ => true⟩ f_form_of.body (defBody (top 23)) = true := by decide +kernel
def N_unknown : List Str := ["name"]
def P_unknown : List Str := ["name"]
theorem sc_unknown : FnScope N_unknown P_unknown (defScope (top 24)) := ⟨by decide +kernel, by decide +kernel, by decide +kernel, by decide +kernel, by decide +kernel, by decide +kernel, by decide +kernel⟩
theorem ck_unknown : chkSs (moOf mo f_unknown.low) ⟨N_unknown, defScope (top 24), fun _ => true⟩ f_unknown.body (defBody (top 24)) = true := by decide +kernel
def N_sum_of : List Str := ["pairs", "number", "factors", "form", "often", "name", "factor"]
def P_sum_of : List Str := ["pairs"]
theorem sc_sum_of : FnScope N_sum_of P_sum_of (defScope (top 25)) := ⟨by decide +kernel, by decide +kernel, by decide +kernel, by decide +kernel, by decide +kernel, by decide +kernel, by decide +kernel⟩
theorem ck_sum_of : chkSs (moOf mo f_sum_of.low) ⟨N_sum_of, defScope (top 25), fun _ => true⟩ f_sum_of.body (defBody (top 25)) = true := by decide +kernel
def N_factor_in : List Str := ["form", "name", "known", "factor"]
def P_factor_in : List Str := ["form", "name"]
theorem sc_factor_in : FnScope N_factor_in P_factor_in (defScope (top 26)) := ⟨by decide +kernel, by decide +kernel, by decide +kernel, by decide +kernel, by decide +kernel, by decide +kernel, by decide +kernel⟩
theorem ck_factor_in : chkSs (moOf mo f_factor_in.low) ⟨N_factor_in, defScope (top 26), fun _ => true⟩ f_factor_in.body (defBody (top 26)) = true := by decide +kernel
def N_worth_of : List Str := ["form", "worths", "name", "factor"]
def P_worth_of : List Str := ["form", "worths"]
theorem sc_worth_of : FnScope N_worth_of P_worth_of (defScope (top 27)) := ⟨by decide +kernel, by decide +kernel, by decide +kernel, by decide +kernel, by decide +kernel, by decide +kernel, by decide +kernel⟩
theorem ck_worth_of : chkSs (moOf mo f_worth_of.low) ⟨N_worth_of, defScope (top 27), fun _ => true⟩ f_worth_of.body (defBody (top 27)) = true := by decide +kernel
def N_worth : List Str := ["form", "worths"]
def P_worth : List Str := ["form", "worths"]
theorem sc_worth : FnScope N_worth P_worth (defScope (top 28)) := ⟨by decide +kernel, by decide +kernel, by decide +kernel, by decide +kernel, by decide +kernel, by decide +kernel, by decide +kernel⟩
theorem ck_worth : chkSs (moOf mo f_worth.low) ⟨N_worth, defScope (top 28), fun _ => true⟩ f_worth.body (defBody (top 28)) = true := by decide +kernel
def N_put_for : List Str := ["form", "name", "other", "found"]
def P_put_for : List Str := ["form", "name", "other"]
theorem sc_put_for : FnScope N_put_for P_put_for (defScope (top 29)) := ⟨by decide +kernel, by decide +kernel, by decide +kernel, by decide +kernel, by decide +kernel, by decide +kernel, by decide +kernel⟩
theorem ck_put_for : chkSs (moOf mo f_put_for.low) ⟨N_put_for, defScope (top 29), fun _ => true⟩ f_put_for.body (defBody (top 29)) = true := by decide +kernel
def N_exchanged : List Str := ["form", "name", "other", "often", "rest", "one"]
def P_exchanged : List Str := ["form", "name", "other"]
theorem sc_exchanged : FnScope N_exchanged P_exchanged (defScope (top 30)) := ⟨by decide +kernel, by decide +kernel, by decide +kernel, by decide +kernel, by decide +kernel, by decide +kernel, by decide +kernel⟩
theorem ck_exchanged : chkSs (moOf mo f_exchanged.low) ⟨N_exchanged, defScope (top 30), fun _ => true⟩ f_exchanged.body (defBody (top 30)) = true := by decide +kernel
def N_below_nought : List Str := ["form"]
def P_below_nought : List Str := ["form"]
theorem sc_below_nought : FnScope N_below_nought P_below_nought (defScope (top 31)) := ⟨by decide +kernel, by decide +kernel, by decide +kernel, by decide +kernel, by decide +kernel, by decide +kernel, by decide +kernel⟩
theorem ck_below_nought : chkSs (moOf mo f_below_nought.low) ⟨N_below_nought, defScope (top 31), fun _ => true⟩ f_below_nought.body (defBody (top 31)) = true := by decide +kernel
def N_inner_formulas : List Str := ["value", "word"]
def P_inner_formulas : List Str := ["value"]
theorem sc_inner_formulas : FnScope N_inner_formulas P_inner_formulas (defScope (top 37)) := ⟨by decide +kernel, by decide +kernel, by decide +kernel, by decide +kernel, by decide +kernel, by decide +kernel, by decide +kernel⟩
theorem ck_inner_formulas : chkSs (moOf mo f_inner_formulas.low) ⟨N_inner_formulas, defScope (top 37), fun _ => true⟩ f_inner_formulas.body (defBody (top 37)) = true := by decide +kernel
def N_is_formula : List Str := ["value", "waiting", "parts", "one", "deep", "inner", "right", "part"]
def P_is_formula : List Str := ["value"]
theorem sc_is_formula : FnScope N_is_formula P_is_formula (defScope (top 38)) := ⟨by decide +kernel, by decide +kernel, by decide +kernel, by decide +kernel, by decide +kernel, by decide +kernel, by decide +kernel⟩
theorem ck_is_formula : chkSs (moOf mo f_is_formula.low) ⟨N_is_formula, defScope (top 38), fun _ => true⟩ f_is_formula.body (defBody (top 38)) = true := by decide +kernel
def N_checked_formula : List Str := ["formula", "at"]
def P_checked_formula : List Str := ["formula", "at"]
theorem sc_checked_formula : FnScope N_checked_formula P_checked_formula (defScope (top 39)) := ⟨by decide +kernel, by decide +kernel, by decide +kernel, by decide +kernel, by decide +kernel, by decide +kernel, by decide +kernel⟩
theorem ck_checked_formula : chkSs (moOf mo f_checked_formula.low) ⟨N_checked_formula, defScope (top 39), fun _ => true⟩ f_checked_formula.body (defBody (top 39)) = true := by decide +kernel
def N_facts_in : List Str := ["formula", "waiting", "found", "one"]
def P_facts_in : List Str := ["formula"]
theorem sc_facts_in : FnScope N_facts_in P_facts_in (defScope (top 40)) := ⟨by decide +kernel, by decide +kernel, by decide +kernel, by decide +kernel, by decide +kernel, by decide +kernel, by decide +kernel⟩
theorem ck_facts_in : chkSs (moOf mo f_facts_in.low) ⟨N_facts_in, defScope (top 40), fun _ => true⟩ f_facts_in.body (defBody (top 40)) = true := by decide +kernel
def N_unknowns_of : List Str := ["formula", "form", "name", "factor"]
def P_unknowns_of : List Str := ["formula"]
theorem sc_unknowns_of : FnScope N_unknowns_of P_unknowns_of (defScope (top 41)) := ⟨by decide +kernel, by decide +kernel, by decide +kernel, by decide +kernel, by decide +kernel, by decide +kernel, by decide +kernel⟩
theorem ck_unknowns_of : chkSs (moOf mo f_unknowns_of.low) ⟨N_unknowns_of, defScope (top 41), fun _ => true⟩ f_unknowns_of.body (defBody (top 41)) = true := by decide +kernel
def N_is_so : List Str := ["formula", "worths", "word", "inner", "part"]
def P_is_so : List Str := ["formula", "worths"]
theorem sc_is_so : FnScope N_is_so P_is_so (defScope (top 42)) := ⟨by decide +kernel, by decide +kernel, by decide +kernel, by decide +kernel, by decide +kernel, by decide +kernel, by decide +kernel⟩
theorem ck_is_so : chkSs (moOf mo f_is_so.low) ⟨N_is_so, defScope (top 42), fun _ => true⟩ f_is_so.body (defBody (top 42)) = true := by decide +kernel
def N_holds : List Str := ["formula", "worths"]
def P_holds : List Str := ["formula", "worths"]
theorem sc_holds : FnScope N_holds P_holds (defScope (top 43)) := ⟨by decide +kernel, by decide +kernel, by decide +kernel, by decide +kernel, by decide +kernel, by decide +kernel, by decide +kernel⟩
theorem ck_holds : chkSs (moOf mo f_holds.low) ⟨N_holds, defScope (top 43), fun _ => true⟩ f_holds.body (defBody (top 43)) = true := by decide +kernel
def N_turned_round : List Str := ["formula", "word", "part"]
def P_turned_round : List Str := ["formula"]
theorem sc_turned_round : FnScope N_turned_round P_turned_round (defScope (top 44)) := ⟨by decide +kernel, by decide +kernel, by decide +kernel, by decide +kernel, by decide +kernel, by decide +kernel, by decide +kernel⟩
theorem ck_turned_round : chkSs (moOf mo f_turned_round.low) ⟨N_turned_round, defScope (top 44), fun _ => true⟩ f_turned_round.body (defBody (top 44)) = true := by decide +kernel
def N_opposite : List Str := ["formula"]
def P_opposite : List Str := ["formula"]
theorem sc_opposite : FnScope N_opposite P_opposite (defScope (top 45)) := ⟨by decide +kernel, by decide +kernel, by decide +kernel, by decide +kernel, by decide +kernel, by decide +kernel, by decide +kernel⟩
theorem ck_opposite : chkSs (moOf mo f_opposite.low) ⟨N_opposite, defScope (top 45), fun _ => true⟩ f_opposite.body (defBody (top 45)) = true := by decide +kernel
def N_with_form : List Str := ["formula", "name", "form", "part"]
def P_with_form : List Str := ["formula", "name", "form"]
theorem sc_with_form : FnScope N_with_form P_with_form (defScope (top 46)) := ⟨by decide +kernel, by decide +kernel, by decide +kernel, by decide +kernel, by decide +kernel, by decide +kernel, by decide +kernel⟩
theorem ck_with_form : chkSs (moOf mo f_with_form.low) ⟨N_with_form, defScope (top 46), fun _ => true⟩ f_with_form.body (defBody (top 46)) = true := by decide +kernel
def N_put_in : List Str := ["formula", "name", "form", "found"]
def P_put_in : List Str := ["formula", "name", "form"]
theorem sc_put_in : FnScope N_put_in P_put_in (defScope (top 47)) := ⟨by decide +kernel, by decide +kernel, by decide +kernel, by decide +kernel, by decide +kernel, by decide +kernel, by decide +kernel⟩
theorem ck_put_in : chkSs (moOf mo f_put_in.low) ⟨N_put_in, defScope (top 47), fun _ => true⟩ f_put_in.body (defBody (top 47)) = true := by decide +kernel
def N_all_of : List Str := ["formulas", "some", "one"]
def P_all_of : List Str := ["formulas"]
theorem sc_all_of : FnScope N_all_of P_all_of (defScope (top 48)) := ⟨by decide +kernel, by decide +kernel, by decide +kernel, by decide +kernel, by decide +kernel, by decide +kernel, by decide +kernel⟩
theorem ck_all_of : chkSs (moOf mo f_all_of.low) ⟨N_all_of, defScope (top 48), fun _ => true⟩ f_all_of.body (defBody (top 48)) = true := by decide +kernel
def N_some_of : List Str := ["formulas", "some", "one"]
def P_some_of : List Str := ["formulas"]
theorem sc_some_of : FnScope N_some_of P_some_of (defScope (top 49)) := ⟨by decide +kernel, by decide +kernel, by decide +kernel, by decide +kernel, by decide +kernel, by decide +kernel, by decide +kernel⟩
theorem ck_some_of : chkSs (moOf mo f_some_of.low) ⟨N_some_of, defScope (top 49), fun _ => true⟩ f_some_of.body (defBody (top 49)) = true := by decide +kernel
def N__law_draw : List Str := ["script", "salt", "cells", "blend", "cell"]
def P__law_draw : List Str := ["script", "salt"]
theorem sc__law_draw : FnScope N__law_draw P__law_draw (defScope (top 51)) := ⟨by decide +kernel, by decide +kernel, by decide +kernel, by decide +kernel, by decide +kernel, by decide +kernel, by decide +kernel⟩
theorem ck__law_draw : chkSs (moOf mo f_law_draw.low) ⟨N__law_draw, defScope (top 51), fun _ => true⟩ f_law_draw.body (defBody (top 51)) = true := by decide +kernel
def N__law_any : List Str := ["deal", "bound", "rest"]
def P__law_any : List Str := ["deal", "bound"]
theorem sc__law_any : FnScope N__law_any P__law_any (defScope (top 52)) := ⟨by decide +kernel, by decide +kernel, by decide +kernel, by decide +kernel, by decide +kernel, by decide +kernel, by decide +kernel⟩
theorem ck__law_any : chkSs (moOf mo f_law_any.low) ⟨N__law_any, defScope (top 52), fun _ => true⟩ f_law_any.body (defBody (top 52)) = true := by decide +kernel
def N__law_of : List Str := ["deal", "some"]
def P__law_of : List Str := ["deal", "some"]
theorem sc__law_of : FnScope N__law_of P__law_of (defScope (top 53)) := ⟨by decide +kernel, by decide +kernel, by decide +kernel, by decide +kernel, by decide +kernel, by decide +kernel, by decide +kernel⟩
theorem ck__law_of : chkSs (moOf mo f_law_of.low) ⟨N__law_of, defScope (top 53), fun _ => true⟩ f_law_of.body (defBody (top 53)) = true := by decide +kernel
def N__law_mixed : List Str := ["deal", "some", "left", "found"]
def P__law_mixed : List Str := ["deal", "some"]
theorem sc__law_mixed : FnScope N__law_mixed P__law_mixed (defScope (top 54)) := ⟨by decide +kernel, by decide +kernel, by decide +kernel, by decide +kernel, by decide +kernel, by decide +kernel, by decide +kernel⟩
theorem ck__law_mixed : chkSs (moOf mo f_law_mixed.low) ⟨N__law_mixed, defScope (top 54), fun _ => true⟩ f_law_mixed.body (defBody (top 54)) = true := by decide +kernel
def N__law_same : List Str := ["value", "due", "one", "other"]
def P__law_same : List Str := ["value", "due"]
theorem sc__law_same : FnScope N__law_same P__law_same (defScope (top 55)) := ⟨by decide +kernel, by decide +kernel, by decide +kernel, by decide +kernel, by decide +kernel, by decide +kernel, by decide +kernel⟩
theorem ck__law_same : chkSs (moOf mo f_law_same.low) ⟨N__law_same, defScope (top 55), fun _ => true⟩ f_law_same.body (defBody (top 55)) = true := by decide +kernel
def N__law_unknown : List Str := ["deal"]
def P__law_unknown : List Str := ["deal"]
theorem sc__law_unknown : FnScope N__law_unknown P__law_unknown (defScope (top 56)) := ⟨by decide +kernel, by decide +kernel, by decide +kernel, by decide +kernel, by decide +kernel, by decide +kernel, by decide +kernel⟩
theorem ck__law_unknown : chkSs (moOf mo f_law_unknown.low) ⟨N__law_unknown, defScope (top 56), fun _ => true⟩ f_law_unknown.body (defBody (top 56)) = true := by decide +kernel
def N__law_number : List Str := ["deal"]
def P__law_number : List Str := ["deal"]
theorem sc__law_number : FnScope N__law_number P__law_number (defScope (top 57)) := ⟨by decide +kernel, by decide +kernel, by decide +kernel, by decide +kernel, by decide +kernel, by decide +kernel, by decide +kernel⟩
theorem ck__law_number : chkSs (moOf mo f_law_number.low) ⟨N__law_number, defScope (top 57), fun _ => true⟩ f_law_number.body (defBody (top 57)) = true := by decide +kernel
def N__law_form : List Str := ["deal", "names", "pairs", "name", "turn", "pair"]
def P__law_form : List Str := ["deal"]
theorem sc__law_form : FnScope N__law_form P__law_form (defScope (top 58)) := ⟨by decide +kernel, by decide +kernel, by decide +kernel, by decide +kernel, by decide +kernel, by decide +kernel, by decide +kernel⟩
theorem ck__law_form : chkSs (moOf mo f_law_form.low) ⟨N__law_form, defScope (top 58), fun _ => true⟩ f_law_form.body (defBody (top 58)) = true := by decide +kernel
def N__law_formula : List Str := ["deal", "deep", "form", "word", "turn"]
def P__law_formula : List Str := ["deal", "deep"]
theorem sc__law_formula : FnScope N__law_formula P__law_formula (defScope (top 59)) := ⟨by decide +kernel, by decide +kernel, by decide +kernel, by decide +kernel, by decide +kernel, by decide +kernel, by decide +kernel⟩
theorem ck__law_formula : chkSs (moOf mo f_law_formula.low) ⟨N__law_formula, defScope (top 59), fun _ => true⟩ f_law_formula.body (defBody (top 59)) = true := by decide +kernel
def N__law_worths : List Str := ["deal", "names", "name", "turn"]
def P__law_worths : List Str := ["deal"]
theorem sc__law_worths : FnScope N__law_worths P__law_worths (defScope (top 60)) := ⟨by decide +kernel, by decide +kernel, by decide +kernel, by decide +kernel, by decide +kernel, by decide +kernel, by decide +kernel⟩
theorem ck__law_worths : chkSs (moOf mo f_law_worths.low) ⟨N__law_worths, defScope (top 60), fun _ => true⟩ f_law_worths.body (defBody (top 60)) = true := by decide +kernel
def N__law_worth : List Str := ["form", "worths", "known", "found", "name", "factor"]
def P__law_worth : List Str := ["form", "worths"]
theorem sc__law_worth : FnScope N__law_worth P__law_worth (defScope (top 61)) := ⟨by decide +kernel, by decide +kernel, by decide +kernel, by decide +kernel, by decide +kernel, by decide +kernel, by decide +kernel⟩
theorem ck__law_worth : chkSs (moOf mo f_law_worth.low) ⟨N__law_worth, defScope (top 61), fun _ => true⟩ f_law_worth.body (defBody (top 61)) = true := by decide +kernel
def N__law_holds : List Str := ["formula", "worths", "told", "part"]
def P__law_holds : List Str := ["formula", "worths"]
theorem sc__law_holds : FnScope N__law_holds P__law_holds (defScope (top 62)) := ⟨by decide +kernel, by decide +kernel, by decide +kernel, by decide +kernel, by decide +kernel, by decide +kernel, by decide +kernel⟩
theorem ck__law_holds : chkSs (moOf mo f_law_holds.low) ⟨N__law_holds, defScope (top 62), fun _ => true⟩ f_law_holds.body (defBody (top 62)) = true := by decide +kernel
def N__law_with : List Str := ["worths", "name", "number", "known", "one"]
def P__law_with : List Str := ["worths", "name", "number"]
theorem sc__law_with : FnScope N__law_with P__law_with (defScope (top 63)) := ⟨by decide +kernel, by decide +kernel, by decide +kernel, by decide +kernel, by decide +kernel, by decide +kernel, by decide +kernel⟩
theorem ck__law_with : chkSs (moOf mo f_law_with.low) ⟨N__law_with, defScope (top 63), fun _ => true⟩ f_law_with.body (defBody (top 63)) = true := by decide +kernel
def N__law_renamed : List Str := ["formula", "names", "part", "name", "factor"]
def P__law_renamed : List Str := ["formula", "names"]
theorem sc__law_renamed : FnScope N__law_renamed P__law_renamed (defScope (top 64)) := ⟨by decide +kernel, by decide +kernel, by decide +kernel, by decide +kernel, by decide +kernel, by decide +kernel, by decide +kernel⟩
theorem ck__law_renamed : chkSs (moOf mo f_law_renamed.low) ⟨N__law_renamed, defScope (top 64), fun _ => true⟩ f_law_renamed.body (defBody (top 64)) = true := by decide +kernel
def N_law : List Str := ["script", "deal", "turn", "place", "late", "names", "book", "other", "here", "parts", "both", "some", "form", "formula", "worths", "found", "steps", "turned", "name", "part", "number"]
def P_law : List Str := ["script"]
theorem sc_law : FnScope N_law P_law (defScope (top 65)) := ⟨by decide +kernel, by decide +kernel, by decide +kernel, by decide +kernel, by decide +kernel, by decide +kernel, by decide +kernel⟩
theorem ck_law : chkSs (moOf mo f_law.low) ⟨N_law, defScope (top 65), fun _ => true⟩ f_law.body (defBody (top 65)) = true := by decide +kernel
end K06T
end Z


/-! the table of the law's defs stands in the module (printed by zprint.py). -/
namespace Z
namespace K06T
open PySem PySem.Spec PyProof.Rows L2
section
variable {KB K : PySem.W.Frag} {h : Heap} {mg : Str → Option Value}
theorem df_is_unknown (X : K.In h) (G : h.Ns mainGlobals mg) (z : SaysZ fa fn gt hx KB K) (c : He.SaysD fa fn K) : DefT K mg T mo "is_unknown" := by
  obtain ⟨fd, F⟩ := c.def_ 0 (d := fD 12 "is_unknown") rfl
  exact ⟨f_is_unknown, _, fd, _, _, _, _, _, N_is_unknown, P_is_unknown, by rfl, F, sc_is_unknown, rfl, rfl, ck_is_unknown, He.glo_ok X G (c.fact 0 (f := .glo "is_unknown") rfl), kw_of (L := [none]) (by decide +kernel) (fm (kw_pos F fun _ _ _ _ _ _ us hl => match us, hl with | [_], _ => rfl) fz), fun e => absurd e (by decide)⟩
theorem df_are_ascending (X : K.In h) (G : h.Ns mainGlobals mg) (z : SaysZ fa fn gt hx KB K) (c : He.SaysD fa fn K) : DefT K mg T mo "are_ascending" := by
  obtain ⟨fd, F⟩ := c.def_ 1 (d := fD 13 "are_ascending") rfl
  exact ⟨f_are_ascending, _, fd, _, _, _, _, _, N_are_ascending, P_are_ascending, by rfl, F, sc_are_ascending, rfl, rfl, ck_are_ascending, He.glo_ok X G (c.fact 1 (f := .glo "are_ascending") rfl), kw_of (L := [none]) (by decide +kernel) (fm (kw_pos F fun _ _ _ _ _ _ us hl => match us, hl with | [_], _ => rfl) fz), fun e => absurd e (by decide)⟩
theorem df_is_integer (X : K.In h) (G : h.Ns mainGlobals mg) (z : SaysZ fa fn gt hx KB K) (c : He.SaysD fa fn K) : DefT K mg T mo "is_integer" := by
  obtain ⟨fd, F⟩ := c.def_ 2 (d := fD 15 "is_integer") rfl
  exact ⟨f_is_integer, _, fd, _, _, _, _, _, N_is_integer, P_is_integer, by rfl, F, sc_is_integer, rfl, rfl, ck_is_integer, He.glo_ok X G (c.fact 2 (f := .glo "is_integer") rfl), kw_of (L := [none]) (by decide +kernel) (fm (kw_pos F fun _ _ _ _ _ _ us hl => match us, hl with | [_], _ => rfl) fz), fun e => absurd e (by decide)⟩
theorem df_are_worths (X : K.In h) (G : h.Ns mainGlobals mg) (z : SaysZ fa fn gt hx KB K) (c : He.SaysD fa fn K) : DefT K mg T mo "are_worths" := by
  obtain ⟨fd, F⟩ := c.def_ 3 (d := fD 19 "are_worths") rfl
  exact ⟨f_are_worths, _, fd, _, _, _, _, _, N_are_worths, P_are_worths, by rfl, F, sc_are_worths, rfl, rfl, ck_are_worths, He.glo_ok X G (c.fact 3 (f := .glo "are_worths") rfl), kw_of (L := [none]) (by decide +kernel) (fm (kw_pos F fun _ _ _ _ _ _ us hl => match us, hl with | [_, _], _ => rfl) fz), fun e => absurd e (by decide)⟩
theorem df_is_form (X : K.In h) (G : h.Ns mainGlobals mg) (z : SaysZ fa fn gt hx KB K) (c : He.SaysD fa fn K) : DefT K mg T mo "is_form" := by
  obtain ⟨fd, F⟩ := c.def_ 4 (d := fD 20 "is_form") rfl
  exact ⟨f_is_form, _, fd, _, _, _, _, _, N_is_form, P_is_form, by rfl, F, sc_is_form, rfl, rfl, ck_is_form, He.glo_ok X G (c.fact 4 (f := .glo "is_form") rfl), kw_of (L := [none]) (by decide +kernel) (fm (kw_pos F fun _ _ _ _ _ _ us hl => match us, hl with | [_], _ => rfl) fz), fun e => absurd e (by decide)⟩
theorem df_checked_form (X : K.In h) (G : h.Ns mainGlobals mg) (z : SaysZ fa fn gt hx KB K) (c : He.SaysD fa fn K) : DefT K mg T mo "checked_form" := by
  obtain ⟨fd, F⟩ := c.def_ 5 (d := fD 21 "checked_form") rfl
  exact ⟨f_checked_form, _, fd, _, _, _, _, _, N_checked_form, P_checked_form, by rfl, F, sc_checked_form, rfl, rfl, ck_checked_form, He.glo_ok X G (c.fact 5 (f := .glo "checked_form") rfl), kw_of (L := [none]) (by decide +kernel) (fm (kw_pos F fun _ _ _ _ _ _ us hl => match us, hl with | [_, _], _ => rfl) fz), fun e => absurd e (by decide)⟩
theorem df_checked_worths (X : K.In h) (G : h.Ns mainGlobals mg) (z : SaysZ fa fn gt hx KB K) (c : He.SaysD fa fn K) : DefT K mg T mo "checked_worths" := by
  obtain ⟨fd, F⟩ := c.def_ 6 (d := fD 22 "checked_worths") rfl
  exact ⟨f_checked_worths, _, fd, _, _, _, _, _, N_checked_worths, P_checked_worths, by rfl, F, sc_checked_worths, rfl, rfl, ck_checked_worths, He.glo_ok X G (c.fact 6 (f := .glo "checked_worths") rfl), kw_of (L := [none]) (by decide +kernel) (fm (kw_pos F fun _ _ _ _ _ _ us hl => match us, hl with | [_, _], _ => rfl) fz), fun e => absurd e (by decide)⟩
theorem df_form_of (X : K.In h) (G : h.Ns mainGlobals mg) (z : SaysZ fa fn gt hx KB K) (c : He.SaysD fa fn K) : DefT K mg T mo "form_of" := by
  obtain ⟨fd, F⟩ := c.def_ 7 (d := fD 23 "form_of") rfl
  exact ⟨f_form_of, _, fd, _, _, _, _, _, N_form_of, P_form_of, by rfl, F, sc_form_of, rfl, rfl, ck_form_of, He.glo_ok X G (c.fact 7 (f := .glo "form_of") rfl), kw_of (L := [none]) (by decide +kernel) (fm (kw_pos F fun _ _ _ _ _ _ us hl => match us, hl with | [_, _], _ => rfl) fz), fun e => absurd e (by decide)⟩
theorem df_unknown (X : K.In h) (G : h.Ns mainGlobals mg) (z : SaysZ fa fn gt hx KB K) (c : He.SaysD fa fn K) : DefT K mg T mo "unknown" := by
  obtain ⟨fd, F⟩ := c.def_ 8 (d := fD 24 "unknown") rfl
  exact ⟨f_unknown, _, fd, _, _, _, _, _, N_unknown, P_unknown, by rfl, F, sc_unknown, rfl, rfl, ck_unknown, He.glo_ok X G (c.fact 8 (f := .glo "unknown") rfl), kw_of (L := [none]) (by decide +kernel) (fm (kw_pos F fun _ _ _ _ _ _ us hl => match us, hl with | [_], _ => rfl) fz), fun e => absurd e (by decide)⟩
theorem df_sum_of (X : K.In h) (G : h.Ns mainGlobals mg) (z : SaysZ fa fn gt hx KB K) (c : He.SaysD fa fn K) : DefT K mg T mo "sum_of" := by
  obtain ⟨fd, F⟩ := c.def_ 9 (d := fD 25 "sum_of") rfl
  exact ⟨f_sum_of, _, fd, _, _, _, _, _, N_sum_of, P_sum_of, by rfl, F, sc_sum_of, rfl, rfl, ck_sum_of, He.glo_ok X G (c.fact 9 (f := .glo "sum_of") rfl), kw_of (L := [none]) (by decide +kernel) (fm (kw_pos F fun _ _ _ _ _ _ us hl => match us, hl with | [_], _ => rfl) fz), fun e => absurd e (by decide)⟩
theorem df_factor_in (X : K.In h) (G : h.Ns mainGlobals mg) (z : SaysZ fa fn gt hx KB K) (c : He.SaysD fa fn K) : DefT K mg T mo "factor_in" := by
  obtain ⟨fd, F⟩ := c.def_ 10 (d := fD 26 "factor_in") rfl
  exact ⟨f_factor_in, _, fd, _, _, _, _, _, N_factor_in, P_factor_in, by rfl, F, sc_factor_in, rfl, rfl, ck_factor_in, He.glo_ok X G (c.fact 10 (f := .glo "factor_in") rfl), kw_of (L := [none]) (by decide +kernel) (fm (kw_pos F fun _ _ _ _ _ _ us hl => match us, hl with | [_, _], _ => rfl) fz), fun e => absurd e (by decide)⟩
theorem df_worth_of (X : K.In h) (G : h.Ns mainGlobals mg) (z : SaysZ fa fn gt hx KB K) (c : He.SaysD fa fn K) : DefT K mg T mo "worth_of" := by
  obtain ⟨fd, F⟩ := c.def_ 11 (d := fD 27 "worth_of") rfl
  exact ⟨f_worth_of, _, fd, _, _, _, _, _, N_worth_of, P_worth_of, by rfl, F, sc_worth_of, rfl, rfl, ck_worth_of, He.glo_ok X G (c.fact 11 (f := .glo "worth_of") rfl), kw_of (L := [none]) (by decide +kernel) (fm (kw_pos F fun _ _ _ _ _ _ us hl => match us, hl with | [_, _], _ => rfl) fz), fun e => absurd e (by decide)⟩
theorem df_worth (X : K.In h) (G : h.Ns mainGlobals mg) (z : SaysZ fa fn gt hx KB K) (c : He.SaysD fa fn K) : DefT K mg T mo "worth" := by
  obtain ⟨fd, F⟩ := c.def_ 12 (d := fD 28 "worth") rfl
  exact ⟨f_worth, _, fd, _, _, _, _, _, N_worth, P_worth, by rfl, F, sc_worth, rfl, rfl, ck_worth, He.glo_ok X G (c.fact 12 (f := .glo "worth") rfl), kw_of (L := [none]) (by decide +kernel) (fm (kw_pos F fun _ _ _ _ _ _ us hl => match us, hl with | [_, _], _ => rfl) fz), fun e => absurd e (by decide)⟩
theorem df_put_for (X : K.In h) (G : h.Ns mainGlobals mg) (z : SaysZ fa fn gt hx KB K) (c : He.SaysD fa fn K) : DefT K mg T mo "put_for" := by
  obtain ⟨fd, F⟩ := c.def_ 13 (d := fD 29 "put_for") rfl
  exact ⟨f_put_for, _, fd, _, _, _, _, _, N_put_for, P_put_for, by rfl, F, sc_put_for, rfl, rfl, ck_put_for, He.glo_ok X G (c.fact 13 (f := .glo "put_for") rfl), kw_of (L := [none]) (by decide +kernel) (fm (kw_pos F fun _ _ _ _ _ _ us hl => match us, hl with | [_, _, _], _ => rfl) fz), fun e => absurd e (by decide)⟩
theorem df_exchanged (X : K.In h) (G : h.Ns mainGlobals mg) (z : SaysZ fa fn gt hx KB K) (c : He.SaysD fa fn K) : DefT K mg T mo "exchanged" := by
  obtain ⟨fd, F⟩ := c.def_ 14 (d := fD 30 "exchanged") rfl
  exact ⟨f_exchanged, _, fd, _, _, _, _, _, N_exchanged, P_exchanged, by rfl, F, sc_exchanged, rfl, rfl, ck_exchanged, He.glo_ok X G (c.fact 14 (f := .glo "exchanged") rfl), kw_of (L := [none]) (by decide +kernel) (fm (kw_pos F fun _ _ _ _ _ _ us hl => match us, hl with | [_, _, _], _ => rfl) fz), fun e => absurd e (by decide)⟩
theorem df_below_nought (X : K.In h) (G : h.Ns mainGlobals mg) (z : SaysZ fa fn gt hx KB K) (c : He.SaysD fa fn K) : DefT K mg T mo "below_nought" := by
  obtain ⟨fd, F⟩ := c.def_ 15 (d := fD 31 "below_nought") rfl
  exact ⟨f_below_nought, _, fd, _, _, _, _, _, N_below_nought, P_below_nought, by rfl, F, sc_below_nought, rfl, rfl, ck_below_nought, He.glo_ok X G (c.fact 15 (f := .glo "below_nought") rfl), kw_of (L := [none]) (by decide +kernel) (fm (kw_pos F fun _ _ _ _ _ _ us hl => match us, hl with | [_], _ => rfl) fz), fun e => absurd e (by decide)⟩
theorem df_inner_formulas (X : K.In h) (G : h.Ns mainGlobals mg) (z : SaysZ fa fn gt hx KB K) (c : He.SaysD fa fn K) : DefT K mg T mo "inner_formulas" := by
  obtain ⟨fd, F⟩ := c.def_ 16 (d := fD 37 "inner_formulas") rfl
  exact ⟨f_inner_formulas, _, fd, _, _, _, _, _, N_inner_formulas, P_inner_formulas, by rfl, F, sc_inner_formulas, rfl, rfl, ck_inner_formulas, He.glo_ok X G (c.fact 16 (f := .glo "inner_formulas") rfl), kw_of (L := [none]) (by decide +kernel) (fm (kw_pos F fun _ _ _ _ _ _ us hl => match us, hl with | [_], _ => rfl) fz), fun e => absurd e (by decide)⟩
theorem df_is_formula (X : K.In h) (G : h.Ns mainGlobals mg) (z : SaysZ fa fn gt hx KB K) (c : He.SaysD fa fn K) : DefT K mg T mo "is_formula" := by
  obtain ⟨fd, F⟩ := c.def_ 17 (d := fD 38 "is_formula") rfl
  exact ⟨f_is_formula, _, fd, _, _, _, _, _, N_is_formula, P_is_formula, by rfl, F, sc_is_formula, rfl, rfl, ck_is_formula, He.glo_ok X G (c.fact 17 (f := .glo "is_formula") rfl), kw_of (L := [none]) (by decide +kernel) (fm (kw_pos F fun _ _ _ _ _ _ us hl => match us, hl with | [_], _ => rfl) fz), fun e => absurd e (by decide)⟩
theorem df_checked_formula (X : K.In h) (G : h.Ns mainGlobals mg) (z : SaysZ fa fn gt hx KB K) (c : He.SaysD fa fn K) : DefT K mg T mo "checked_formula" := by
  obtain ⟨fd, F⟩ := c.def_ 18 (d := fD 39 "checked_formula") rfl
  exact ⟨f_checked_formula, _, fd, _, _, _, _, _, N_checked_formula, P_checked_formula, by rfl, F, sc_checked_formula, rfl, rfl, ck_checked_formula, He.glo_ok X G (c.fact 18 (f := .glo "checked_formula") rfl), kw_of (L := [none]) (by decide +kernel) (fm (kw_pos F fun _ _ _ _ _ _ us hl => match us, hl with | [_, _], _ => rfl) fz), fun e => absurd e (by decide)⟩
theorem df_facts_in (X : K.In h) (G : h.Ns mainGlobals mg) (z : SaysZ fa fn gt hx KB K) (c : He.SaysD fa fn K) : DefT K mg T mo "facts_in" := by
  obtain ⟨fd, F⟩ := c.def_ 19 (d := fD 40 "facts_in") rfl
  exact ⟨f_facts_in, _, fd, _, _, _, _, _, N_facts_in, P_facts_in, by rfl, F, sc_facts_in, rfl, rfl, ck_facts_in, He.glo_ok X G (c.fact 19 (f := .glo "facts_in") rfl), kw_of (L := [none]) (by decide +kernel) (fm (kw_pos F fun _ _ _ _ _ _ us hl => match us, hl with | [_], _ => rfl) fz), fun e => absurd e (by decide)⟩
theorem df_unknowns_of (X : K.In h) (G : h.Ns mainGlobals mg) (z : SaysZ fa fn gt hx KB K) (c : He.SaysD fa fn K) : DefT K mg T mo "unknowns_of" := by
  obtain ⟨fd, F⟩ := c.def_ 20 (d := fD 41 "unknowns_of") rfl
  exact ⟨f_unknowns_of, _, fd, _, _, _, _, _, N_unknowns_of, P_unknowns_of, by rfl, F, sc_unknowns_of, rfl, rfl, ck_unknowns_of, He.glo_ok X G (c.fact 20 (f := .glo "unknowns_of") rfl), kw_of (L := [none]) (by decide +kernel) (fm (kw_pos F fun _ _ _ _ _ _ us hl => match us, hl with | [_], _ => rfl) fz), fun e => absurd e (by decide)⟩
theorem df_is_so (X : K.In h) (G : h.Ns mainGlobals mg) (z : SaysZ fa fn gt hx KB K) (c : He.SaysD fa fn K) : DefT K mg T mo "is_so" := by
  obtain ⟨fd, F⟩ := c.def_ 21 (d := fD 42 "is_so") rfl
  exact ⟨f_is_so, _, fd, _, _, _, _, _, N_is_so, P_is_so, by rfl, F, sc_is_so, rfl, rfl, ck_is_so, He.glo_ok X G (c.fact 21 (f := .glo "is_so") rfl), kw_of (L := [none]) (by decide +kernel) (fm (kw_pos F fun _ _ _ _ _ _ us hl => match us, hl with | [_, _], _ => rfl) fz), fun e => absurd e (by decide)⟩
theorem df_holds (X : K.In h) (G : h.Ns mainGlobals mg) (z : SaysZ fa fn gt hx KB K) (c : He.SaysD fa fn K) : DefT K mg T mo "holds" := by
  obtain ⟨fd, F⟩ := c.def_ 22 (d := fD 43 "holds") rfl
  exact ⟨f_holds, _, fd, _, _, _, _, _, N_holds, P_holds, by rfl, F, sc_holds, rfl, rfl, ck_holds, He.glo_ok X G (c.fact 22 (f := .glo "holds") rfl), kw_of (L := [none]) (by decide +kernel) (fm (kw_pos F fun _ _ _ _ _ _ us hl => match us, hl with | [_, _], _ => rfl) fz), fun e => absurd e (by decide)⟩
theorem df_turned_round (X : K.In h) (G : h.Ns mainGlobals mg) (z : SaysZ fa fn gt hx KB K) (c : He.SaysD fa fn K) : DefT K mg T mo "turned_round" := by
  obtain ⟨fd, F⟩ := c.def_ 23 (d := fD 44 "turned_round") rfl
  exact ⟨f_turned_round, _, fd, _, _, _, _, _, N_turned_round, P_turned_round, by rfl, F, sc_turned_round, rfl, rfl, ck_turned_round, He.glo_ok X G (c.fact 23 (f := .glo "turned_round") rfl), kw_of (L := [none]) (by decide +kernel) (fm (kw_pos F fun _ _ _ _ _ _ us hl => match us, hl with | [_], _ => rfl) fz), fun e => absurd e (by decide)⟩
theorem df_opposite (X : K.In h) (G : h.Ns mainGlobals mg) (z : SaysZ fa fn gt hx KB K) (c : He.SaysD fa fn K) : DefT K mg T mo "opposite" := by
  obtain ⟨fd, F⟩ := c.def_ 24 (d := fD 45 "opposite") rfl
  exact ⟨f_opposite, _, fd, _, _, _, _, _, N_opposite, P_opposite, by rfl, F, sc_opposite, rfl, rfl, ck_opposite, He.glo_ok X G (c.fact 24 (f := .glo "opposite") rfl), kw_of (L := [none]) (by decide +kernel) (fm (kw_pos F fun _ _ _ _ _ _ us hl => match us, hl with | [_], _ => rfl) fz), fun e => absurd e (by decide)⟩
theorem df_with_form (X : K.In h) (G : h.Ns mainGlobals mg) (z : SaysZ fa fn gt hx KB K) (c : He.SaysD fa fn K) : DefT K mg T mo "with_form" := by
  obtain ⟨fd, F⟩ := c.def_ 25 (d := fD 46 "with_form") rfl
  exact ⟨f_with_form, _, fd, _, _, _, _, _, N_with_form, P_with_form, by rfl, F, sc_with_form, rfl, rfl, ck_with_form, He.glo_ok X G (c.fact 25 (f := .glo "with_form") rfl), kw_of (L := [none]) (by decide +kernel) (fm (kw_pos F fun _ _ _ _ _ _ us hl => match us, hl with | [_, _, _], _ => rfl) fz), fun e => absurd e (by decide)⟩
theorem df_put_in (X : K.In h) (G : h.Ns mainGlobals mg) (z : SaysZ fa fn gt hx KB K) (c : He.SaysD fa fn K) : DefT K mg T mo "put_in" := by
  obtain ⟨fd, F⟩ := c.def_ 26 (d := fD 47 "put_in") rfl
  exact ⟨f_put_in, _, fd, _, _, _, _, _, N_put_in, P_put_in, by rfl, F, sc_put_in, rfl, rfl, ck_put_in, He.glo_ok X G (c.fact 26 (f := .glo "put_in") rfl), kw_of (L := [none]) (by decide +kernel) (fm (kw_pos F fun _ _ _ _ _ _ us hl => match us, hl with | [_, _, _], _ => rfl) fz), fun e => absurd e (by decide)⟩
theorem df_all_of (X : K.In h) (G : h.Ns mainGlobals mg) (z : SaysZ fa fn gt hx KB K) (c : He.SaysD fa fn K) : DefT K mg T mo "all_of" := by
  obtain ⟨fd, F⟩ := c.def_ 27 (d := fD 48 "all_of") rfl
  exact ⟨f_all_of, _, fd, _, _, _, _, _, N_all_of, P_all_of, by rfl, F, sc_all_of, rfl, rfl, ck_all_of, He.glo_ok X G (c.fact 27 (f := .glo "all_of") rfl), kw_of (L := [none]) (by decide +kernel) (fm (kw_pos F fun _ _ _ _ _ _ us hl => match us, hl with | [_], _ => rfl) fz), fun e => absurd e (by decide)⟩
theorem df_some_of (X : K.In h) (G : h.Ns mainGlobals mg) (z : SaysZ fa fn gt hx KB K) (c : He.SaysD fa fn K) : DefT K mg T mo "some_of" := by
  obtain ⟨fd, F⟩ := c.def_ 28 (d := fD 49 "some_of") rfl
  exact ⟨f_some_of, _, fd, _, _, _, _, _, N_some_of, P_some_of, by rfl, F, sc_some_of, rfl, rfl, ck_some_of, He.glo_ok X G (c.fact 28 (f := .glo "some_of") rfl), kw_of (L := [none]) (by decide +kernel) (fm (kw_pos F fun _ _ _ _ _ _ us hl => match us, hl with | [_], _ => rfl) fz), fun e => absurd e (by decide)⟩
theorem df__law_draw (X : K.In h) (G : h.Ns mainGlobals mg) (z : SaysZ fa fn gt hx KB K) (c : He.SaysD fa fn K) : DefT K mg T mo "_law_draw" := by
  obtain ⟨fd, F⟩ := c.def_ 29 (d := fD 51 "_law_draw") rfl
  exact ⟨f_law_draw, _, fd, _, _, _, _, _, N__law_draw, P__law_draw, by rfl, F, sc__law_draw, rfl, rfl, ck__law_draw, He.glo_ok X G (c.fact 29 (f := .glo "_law_draw") rfl), kw_of (L := [none]) (by decide +kernel) (fm (kw_pos F fun _ _ _ _ _ _ us hl => match us, hl with | [_, _], _ => rfl) fz), fun e => absurd e (by decide)⟩
theorem df__law_any (X : K.In h) (G : h.Ns mainGlobals mg) (z : SaysZ fa fn gt hx KB K) (c : He.SaysD fa fn K) : DefT K mg T mo "_law_any" := by
  obtain ⟨fd, F⟩ := c.def_ 30 (d := fD 52 "_law_any") rfl
  exact ⟨f_law_any, _, fd, _, _, _, _, _, N__law_any, P__law_any, by rfl, F, sc__law_any, rfl, rfl, ck__law_any, He.glo_ok X G (c.fact 30 (f := .glo "_law_any") rfl), kw_of (L := [none]) (by decide +kernel) (fm (kw_pos F fun _ _ _ _ _ _ us hl => match us, hl with | [_, _], _ => rfl) fz), fun e => absurd e (by decide)⟩
theorem df__law_of (X : K.In h) (G : h.Ns mainGlobals mg) (z : SaysZ fa fn gt hx KB K) (c : He.SaysD fa fn K) : DefT K mg T mo "_law_of" := by
  obtain ⟨fd, F⟩ := c.def_ 31 (d := fD 53 "_law_of") rfl
  exact ⟨f_law_of, _, fd, _, _, _, _, _, N__law_of, P__law_of, by rfl, F, sc__law_of, rfl, rfl, ck__law_of, He.glo_ok X G (c.fact 31 (f := .glo "_law_of") rfl), kw_of (L := [none]) (by decide +kernel) (fm (kw_pos F fun _ _ _ _ _ _ us hl => match us, hl with | [_, _], _ => rfl) fz), fun e => absurd e (by decide)⟩
theorem df__law_mixed (X : K.In h) (G : h.Ns mainGlobals mg) (z : SaysZ fa fn gt hx KB K) (c : He.SaysD fa fn K) : DefT K mg T mo "_law_mixed" := by
  obtain ⟨fd, F⟩ := c.def_ 32 (d := fD 54 "_law_mixed") rfl
  exact ⟨f_law_mixed, _, fd, _, _, _, _, _, N__law_mixed, P__law_mixed, by rfl, F, sc__law_mixed, rfl, rfl, ck__law_mixed, He.glo_ok X G (c.fact 32 (f := .glo "_law_mixed") rfl), kw_of (L := [none]) (by decide +kernel) (fm (kw_pos F fun _ _ _ _ _ _ us hl => match us, hl with | [_, _], _ => rfl) fz), fun e => absurd e (by decide)⟩
theorem df__law_same (X : K.In h) (G : h.Ns mainGlobals mg) (z : SaysZ fa fn gt hx KB K) (c : He.SaysD fa fn K) : DefT K mg T mo "_law_same" := by
  obtain ⟨fd, F⟩ := c.def_ 33 (d := fD 55 "_law_same") rfl
  exact ⟨f_law_same, _, fd, _, _, _, _, _, N__law_same, P__law_same, by rfl, F, sc__law_same, rfl, rfl, ck__law_same, He.glo_ok X G (c.fact 33 (f := .glo "_law_same") rfl), kw_of (L := [none]) (by decide +kernel) (fm (kw_pos F fun _ _ _ _ _ _ us hl => match us, hl with | [_, _], _ => rfl) fz), fun e => absurd e (by decide)⟩
theorem df__law_unknown (X : K.In h) (G : h.Ns mainGlobals mg) (z : SaysZ fa fn gt hx KB K) (c : He.SaysD fa fn K) : DefT K mg T mo "_law_unknown" := by
  obtain ⟨fd, F⟩ := c.def_ 34 (d := fD 56 "_law_unknown") rfl
  exact ⟨f_law_unknown, _, fd, _, _, _, _, _, N__law_unknown, P__law_unknown, by rfl, F, sc__law_unknown, rfl, rfl, ck__law_unknown, He.glo_ok X G (c.fact 34 (f := .glo "_law_unknown") rfl), kw_of (L := [none]) (by decide +kernel) (fm (kw_pos F fun _ _ _ _ _ _ us hl => match us, hl with | [_], _ => rfl) fz), fun e => absurd e (by decide)⟩
theorem df__law_number (X : K.In h) (G : h.Ns mainGlobals mg) (z : SaysZ fa fn gt hx KB K) (c : He.SaysD fa fn K) : DefT K mg T mo "_law_number" := by
  obtain ⟨fd, F⟩ := c.def_ 35 (d := fD 57 "_law_number") rfl
  exact ⟨f_law_number, _, fd, _, _, _, _, _, N__law_number, P__law_number, by rfl, F, sc__law_number, rfl, rfl, ck__law_number, He.glo_ok X G (c.fact 35 (f := .glo "_law_number") rfl), kw_of (L := [none]) (by decide +kernel) (fm (kw_pos F fun _ _ _ _ _ _ us hl => match us, hl with | [_], _ => rfl) fz), fun e => absurd e (by decide)⟩
theorem df__law_form (X : K.In h) (G : h.Ns mainGlobals mg) (z : SaysZ fa fn gt hx KB K) (c : He.SaysD fa fn K) : DefT K mg T mo "_law_form" := by
  obtain ⟨fd, F⟩ := c.def_ 36 (d := fD 58 "_law_form") rfl
  exact ⟨f_law_form, _, fd, _, _, _, _, _, N__law_form, P__law_form, by rfl, F, sc__law_form, rfl, rfl, ck__law_form, He.glo_ok X G (c.fact 36 (f := .glo "_law_form") rfl), kw_of (L := [none]) (by decide +kernel) (fm (kw_pos F fun _ _ _ _ _ _ us hl => match us, hl with | [_], _ => rfl) fz), fun e => absurd e (by decide)⟩
theorem df__law_formula (X : K.In h) (G : h.Ns mainGlobals mg) (z : SaysZ fa fn gt hx KB K) (c : He.SaysD fa fn K) : DefT K mg T mo "_law_formula" := by
  obtain ⟨fd, F⟩ := c.def_ 37 (d := fD 59 "_law_formula") rfl
  exact ⟨f_law_formula, _, fd, _, _, _, _, _, N__law_formula, P__law_formula, by rfl, F, sc__law_formula, rfl, rfl, ck__law_formula, He.glo_ok X G (c.fact 37 (f := .glo "_law_formula") rfl), kw_of (L := [none]) (by decide +kernel) (fm (kw_pos F fun _ _ _ _ _ _ us hl => match us, hl with | [_, _], _ => rfl) fz), fun e => absurd e (by decide)⟩
theorem df__law_worths (X : K.In h) (G : h.Ns mainGlobals mg) (z : SaysZ fa fn gt hx KB K) (c : He.SaysD fa fn K) : DefT K mg T mo "_law_worths" := by
  obtain ⟨fd, F⟩ := c.def_ 38 (d := fD 60 "_law_worths") rfl
  exact ⟨f_law_worths, _, fd, _, _, _, _, _, N__law_worths, P__law_worths, by rfl, F, sc__law_worths, rfl, rfl, ck__law_worths, He.glo_ok X G (c.fact 38 (f := .glo "_law_worths") rfl), kw_of (L := [none]) (by decide +kernel) (fm (kw_pos F fun _ _ _ _ _ _ us hl => match us, hl with | [_], _ => rfl) fz), fun e => absurd e (by decide)⟩
theorem df__law_worth (X : K.In h) (G : h.Ns mainGlobals mg) (z : SaysZ fa fn gt hx KB K) (c : He.SaysD fa fn K) : DefT K mg T mo "_law_worth" := by
  obtain ⟨fd, F⟩ := c.def_ 39 (d := fD 61 "_law_worth") rfl
  exact ⟨f_law_worth, _, fd, _, _, _, _, _, N__law_worth, P__law_worth, by rfl, F, sc__law_worth, rfl, rfl, ck__law_worth, He.glo_ok X G (c.fact 39 (f := .glo "_law_worth") rfl), kw_of (L := [none]) (by decide +kernel) (fm (kw_pos F fun _ _ _ _ _ _ us hl => match us, hl with | [_, _], _ => rfl) fz), fun e => absurd e (by decide)⟩
theorem df__law_holds (X : K.In h) (G : h.Ns mainGlobals mg) (z : SaysZ fa fn gt hx KB K) (c : He.SaysD fa fn K) : DefT K mg T mo "_law_holds" := by
  obtain ⟨fd, F⟩ := c.def_ 40 (d := fD 62 "_law_holds") rfl
  exact ⟨f_law_holds, _, fd, _, _, _, _, _, N__law_holds, P__law_holds, by rfl, F, sc__law_holds, rfl, rfl, ck__law_holds, He.glo_ok X G (c.fact 40 (f := .glo "_law_holds") rfl), kw_of (L := [none]) (by decide +kernel) (fm (kw_pos F fun _ _ _ _ _ _ us hl => match us, hl with | [_, _], _ => rfl) fz), fun e => absurd e (by decide)⟩
theorem df__law_with (X : K.In h) (G : h.Ns mainGlobals mg) (z : SaysZ fa fn gt hx KB K) (c : He.SaysD fa fn K) : DefT K mg T mo "_law_with" := by
  obtain ⟨fd, F⟩ := c.def_ 41 (d := fD 63 "_law_with") rfl
  exact ⟨f_law_with, _, fd, _, _, _, _, _, N__law_with, P__law_with, by rfl, F, sc__law_with, rfl, rfl, ck__law_with, He.glo_ok X G (c.fact 41 (f := .glo "_law_with") rfl), kw_of (L := [none]) (by decide +kernel) (fm (kw_pos F fun _ _ _ _ _ _ us hl => match us, hl with | [_, _, _], _ => rfl) fz), fun e => absurd e (by decide)⟩
theorem df__law_renamed (X : K.In h) (G : h.Ns mainGlobals mg) (z : SaysZ fa fn gt hx KB K) (c : He.SaysD fa fn K) : DefT K mg T mo "_law_renamed" := by
  obtain ⟨fd, F⟩ := c.def_ 42 (d := fD 64 "_law_renamed") rfl
  exact ⟨f_law_renamed, _, fd, _, _, _, _, _, N__law_renamed, P__law_renamed, by rfl, F, sc__law_renamed, rfl, rfl, ck__law_renamed, He.glo_ok X G (c.fact 42 (f := .glo "_law_renamed") rfl), kw_of (L := [none]) (by decide +kernel) (fm (kw_pos F fun _ _ _ _ _ _ us hl => match us, hl with | [_, _], _ => rfl) fz), fun e => absurd e (by decide)⟩
theorem df_law (X : K.In h) (G : h.Ns mainGlobals mg) (z : SaysZ fa fn gt hx KB K) (c : He.SaysD fa fn K) : DefT K mg T mo "law" := by
  obtain ⟨fd, F⟩ := c.def_ 43 (d := fD 65 "law") rfl
  exact ⟨f_law, _, fd, _, _, _, _, _, N_law, P_law, by rfl, F, sc_law, rfl, rfl, ck_law, He.glo_ok X G (c.fact 43 (f := .glo "law") rfl), kw_of (L := [none]) (by decide +kernel) (fm (kw_pos F fun _ _ _ _ _ _ us hl => match us, hl with | [_], _ => rfl) fz), fun e => absurd e (by decide)⟩
theorem err_ok (X : K.In h) (G : h.Ns mainGlobals mg) (z : SaysZ fa fn gt hx KB K) : ErrOk R.prog K mg (fun c => He.ga K (Str.ofString c)) hx.xs := z.err X G (by kernel_rfl) rfl
theorem tab_ok (XB : KB.In h) (X : K.In h) (G : h.Ns mainGlobals mg) (z : SaysZ fa fn gt hx KB K) (c : He.SaysD fa fn K) : TabOk R.prog K mg (fun c => He.ga K (Str.ofString c)) T mo := by
  have e := err_ok X G z
  exact ⟨(fm (df_is_unknown X G z c) (fm (df_are_ascending X G z c) (fm (df_is_integer X G z c) (fm (df_are_worths X G z c) (fm (df_is_form X G z c) (fm (df_checked_form X G z c) (fm (df_checked_worths X G z c) (fm (df_form_of X G z c) (fm (df_unknown X G z c) (fm (df_sum_of X G z c) (fm (df_factor_in X G z c) (fm (df_worth_of X G z c) (fm (df_worth X G z c) (fm (df_put_for X G z c) (fm (df_exchanged X G z c) (fm (df_below_nought X G z c) (fm (df_inner_formulas X G z c) (fm (df_is_formula X G z c) (fm (df_checked_formula X G z c) (fm (df_facts_in X G z c) (fm (df_unknowns_of X G z c) (fm (df_is_so X G z c) (fm (df_holds X G z c) (fm (df_turned_round X G z c) (fm (df_opposite X G z c) (fm (df_with_form X G z c) (fm (df_put_in X G z c) (fm (df_all_of X G z c) (fm (df_some_of X G z c) (fm (df__law_draw X G z c) (fm (df__law_any X G z c) (fm (df__law_of X G z c) (fm (df__law_mixed X G z c) (fm (df__law_same X G z c) (fm (df__law_unknown X G z c) (fm (df__law_number X G z c) (fm (df__law_form X G z c) (fm (df__law_formula X G z c) (fm (df__law_worths X G z c) (fm (df__law_worth X G z c) (fm (df__law_holds X G z c) (fm (df__law_with X G z c) (fm (df__law_renamed X G z c) (fm (df_law X G z c) fz)))))))))))))))))))))))))))))))))))))))))))),
   (fm (by obtain ⟨t, e⟩ := He.str_ok X G (c.fact 44 (f := .str "LETTERS" "abcdefghijklmnopqrstuvwxyz") rfl); exact ⟨.str "abcdefghijklmnopqrstuvwxyz", .str "abcdefghijklmnopqrstuvwxyz" t, e, ⟨t, rfl⟩, fun _ _ _ => .str _⟩) (fm (by obtain ⟨t, e⟩ := He.str_ok X G (c.fact 45 (f := .str "DIGITS" "0123456789") rfl); exact ⟨.str "0123456789", .str "0123456789" t, e, ⟨t, rfl⟩, fun _ _ _ => .str _⟩) (fm (by obtain ⟨t, e⟩ := He.str_ok X G (c.fact 46 (f := .str "MARKS" "._#") rfl); exact ⟨.str "._#", .str "._#" t, e, ⟨t, rfl⟩, fun _ _ _ => .str _⟩) (fm (by obtain ⟨t, e⟩ := He.int_ok X G (c.fact 47 (f := .int "MOST_UNKNOWN" 60) rfl); exact ⟨.int 60, .int 60 t, e, ⟨t, rfl⟩, fun _ _ _ => .int _⟩) (fm (by obtain ⟨t, e⟩ := He.int_ok X G (c.fact 48 (f := .int "MOST_UNKNOWNS" 200) rfl); exact ⟨.int 200, .int 200 t, e, ⟨t, rfl⟩, fun _ _ _ => .int _⟩) (fm (by obtain ⟨t, e⟩ := He.int_ok X G (c.fact 49 (f := .int "MOST_WORTHS" 2000) rfl); exact ⟨.int 2000, .int 2000 t, e, ⟨t, rfl⟩, fun _ _ _ => .int _⟩) (fm (by obtain ⟨t, e⟩ := He.int_ok X G (c.fact 50 (f := .int "MOST_DEEP" 40) rfl); exact ⟨.int 40, .int 40 t, e, ⟨t, rfl⟩, fun _ _ _ => .int _⟩) (fm (by obtain ⟨t, e⟩ := He.int_ok X G (c.fact 51 (f := .int "MOST_PARTS" 4000) rfl); exact ⟨.int 4000, .int 4000 t, e, ⟨t, rfl⟩, fun _ _ _ => .int _⟩) (fm (gt_ok X G (z.t 0 rfl)) (fm (gt_ok X G (z.t 1 rfl)) fz)))))))))),
   (fm (He.free_ok X G (c.fact 52 (f := .free "len") rfl)) (fm (He.free_ok X G (c.fact 53 (f := .free "abs") rfl)) (fm (He.free_ok X G (c.fact 54 (f := .free "int") rfl)) (fm (He.free_ok X G (c.fact 55 (f := .free "all") rfl)) (fm (He.free_ok X G (c.fact 56 (f := .free "any") rfl)) (fm (He.free_ok X G (c.fact 57 (f := .free "sum") rfl)) (fm (He.free_ok X G (c.fact 58 (f := .free "max") rfl)) (fm (He.free_ok X G (c.fact 59 (f := .free "min") rfl)) (fm (He.free_ok X G (c.fact 60 (f := .free "tuple") rfl)) (fm (He.free_ok X G (c.fact 61 (f := .free "list") rfl)) (fm (He.free_ok X G (c.fact 62 (f := .free "sorted") rfl)) (fm (He.free_ok X G (c.fact 63 (f := .free "dict") rfl)) (fm (He.free_ok X G (c.fact 64 (f := .free "str") rfl)) (fm (He.free_ok X G (c.fact 65 (f := .free "set") rfl)) (fm (He.free_ok X G (c.fact 66 (f := .free "isinstance") rfl)) (fm (He.free_ok X G (c.fact 67 (f := .free "range") rfl)) (fm (He.free_ok X G (c.fact 68 (f := .free "enumerate") rfl)) (fm (He.free_ok X G (c.fact 69 (f := .free "zip") rfl)) (fm (He.free_ok X G (c.fact 70 (f := .free "bool") rfl)) (fm (He.free_ok X G (c.fact 71 (f := .free "NoneType") rfl)) (fm (He.free_ok X G (c.fact 72 (f := .free "super") rfl)) fz))))))))))))))))))))),
   fz, e.sub (by decide +kernel), (z.tabs XB X).2⟩
end
end K06T
end Z
open PySem PySem.W PySem.Calls PyProof.Rows
theorem K06T.ends {N : Nat} (hr : L2.Room (Z.lvl N) callerA) (hlaw : ∀ ns : List Int, ns.length ≤ 63 → ∃ M, Z.callN Z.K06T.T N "law" [.scr (ns.map .int)] [] = .ok (.bl true) M) : PySem.Challenge.rw_boundbyproof_k06_whole_rows_of_formulas.Holds := by
  w_on; o_law
  refine HandSHeadRun.head_any (r := OpenLaw.row PySem.Challenge.rw_boundbyproof_k06_whole_rows_of_formulas) (q := view (OpenLaw.row PySem.Challenge.rw_boundbyproof_k06_whole_rows_of_formulas).prog [65]) (H := Z.K06T.hk) (ob := Z.K06T.ob) (M := 4000) (loose := Z.K06T.names) (d := HandSHeadRun.topDef (OpenLaw.row PySem.Challenge.rw_boundbyproof_k06_whole_rows_of_formulas).prog 65) (kwd := []) Z.K06T.ob_eq
    (by kernel_rfl) (fun s => by kernel_rfl) Z.K06T.run (by kernel_rfl) (by kernel_rfl) (by kernel_rfl) (by rfl) (by first | assumption | decide +kernel) (by decide +kernel) ⟨rfl, rfl, rfl, rfl, rfl, by decide +kernel⟩ ?hw ?hc
  case hw => w_witness2
  case hc =>
    refine Z.law_end (l := PySem.Challenge.rw_boundbyproof_k06_whole_rows_of_formulas) (n := 63) (N := N) (x := "script") (T := Z.K06T.T) (mo := Z.K06T.mo) (fn := Z.K06T.f_law) (scope := L2.defScope (Z.K06T.top 65)) (params := L2.defArgs (Z.K06T.top 65)) (body := L2.defBody (Z.K06T.top 65)) (Nl := Z.K06T.N_law) rfl (by decide) (by kernel_rfl) hr (by kernel_rfl) (by rfl) Z.K06T.sc_law rfl rfl Z.K06T.ck_law hlaw ?_
    intro w mg fa h Y G hmg
    obtain ⟨KB, K, XB, KX, z⟩ := Y
    have c := Z.SaysZ.d z
    obtain ⟨fd, F⟩ := He.SaysD.def_ c 43 (d := Z.K06T.fD 65 "law") rfl
    have e := hmg.symm.trans (He.glo_ok KX G (c.fact 43 (f := .glo "law") rfl))
    cases e
    have b := L2.FunD.bindsA (ps := ["script"]) F fun _ _ _ _ _ _ us hl => match us, hl with | [_], _ => rfl
    exact ⟨K, fun c => He.ga K (Str.ofString c), fd, _, KX, (z.tabs XB KX).1, Z.K06T.tab_ok XB KX G z c, F, fun e => absurd e (by decide), fun s u => b s [u] rfl⟩


/-! K03A: the functions of the module, by what they give. -/
namespace Z
namespace K06T
open PySem L2

def NL : List Str := ["a", "a#1", "a#1.2", "n0000000000000000000000000000000000000000000000000000000000#", "q7", "q8", "q9", "r0", "x", "x_2", "y", "z"]
def letS : Str := "abcdefghijklmnopqrstuvwxyz"
def digS : Str := "0123456789"
def mrkS : Str := "._#"
def unkC (c : Nat) : Bool := decide (c ∈ letS.cps.toList) || (decide (c ∈ digS.cps.toList) || decide (c ∈ mrkS.cps.toList))
/-- an unknown, plainly -/
def unkB (x : Str) : Bool := match x.cps.toList with
  | [] => false
  | c :: r => decide ((c :: r).length ≤ 60) && (decide (c ∈ letS.cps.toList) && (c :: r).all unkC)
theorem str_len {x : Str} : x.length = x.cps.toList.length := by rw [Array.length_toList]; rfl
theorem len_str {m : Bool} {M : Sto} {x : Str} (h : fitLen x.length = true) : biD .len m [.str x] M = .ok (.int x.length) M := by show (if fitLen x.length then _ else _) = _; rw [if_pos h]
theorem in_one {M : Sto} {c : Nat} {y : Str} : inD M (.str ⟨#[c]⟩) (.str y) = some (decide (c ∈ y.cps.toList)) := rfl
theorem bools_map {α : Type} {f : α → Bool} : ∀ (l : List α), boolsD (l.map fun x => D.bl (f x)) = some (l.map f)
  | [] => rfl
  | _ :: r => by rw [List.map_cons, boolsD, bools_map r]; rfl
theorem is_unknown_all {n : Nat} {x : Str} (hf : fitLen x.length = true) : Calc (callN T (n + 1)) "is_unknown" [.str x] (.bl (unkB x)) := by
  refine own_call (fn := f_is_unknown) (by kernel_rfl) rfl rfl rfl fun M => ⟨[], ?_⟩
  rw [List.append_nil]
  have hl := len_str (m := false) (M := M) hf
  have hL := str_len (x := x)
  unfold unkB
  cases hx : x.cps.toList with
  | nil =>
    rw [hx] at hL
    have h1 : decide ((1 : Int) ≤ (x.length : Int)) = false := decide_eq_false (by rw [hL]; simp)
    simp [f_is_unknown, hl, h1]
  | cons c r =>
    rw [hx] at hL
    have h1 : decide ((1 : Int) ≤ (x.length : Int)) = true := decide_eq_true (by rw [hL, List.length_cons]; omega)
    have h2 : decide ((x.length : Int) ≤ 60) = decide ((c :: r).length ≤ 60) := by
      rw [hL, Bool.eq_iff_iff, decide_eq_true_eq, decide_eq_true_eq]; omega
    have h3 : idxD M (.str x) (.int 0) = some (.str ⟨#[c]⟩) := by
      show (if fitLen x.length then (itemAt x.cps.toList 0).map fun c => D.str ⟨#[c]⟩ else none) = _
      rw [if_pos hf, hx, it_0]; rfl
    have h4 : inD M (.str ⟨#[c]⟩) (.str "abcdefghijklmnopqrstuvwxyz") = some (decide (c ∈ letS.cps.toList)) := in_one
    have h5 : walkD (.str x) = some ((c :: r).map fun c => D.str ⟨#[c]⟩) := by
      show (if fitLen x.length then some (x.cps.toList.map fun c => D.str ⟨#[c]⟩) else none) = _
      rw [if_pos hf, hx]
    have h6 : ∀ env : En, env = [some (.str x), none] → compGo (.n 1) (fun _ M => .ok true M) (fun env M => evE (callN T n) f_is_unknown_c0 env M) env ((c :: r).map fun c => D.str ⟨#[c]⟩) M = .ok ((c :: r).map fun c => D.bl (unkC c)) M := by
      intro env he
      rw [comp_pure (p := fun _ => true) (q := fun d => (match d with | .str y => .bl (match y.cps.toList with | [c] => unkC c | _ => false) | _ => .non)) fun d hd => ?_]
      · rw [List.filter_eq_self.mpr (fun _ _ => rfl), List.map_map]; rfl
      · obtain ⟨z, _, rfl⟩ := List.mem_map.mp hd
        subst he
        refine ⟨_, rfl, rfl, fun _ => ?_⟩
        have k1 : inD M (.str ⟨#[z]⟩) (.str "abcdefghijklmnopqrstuvwxyz") = some (decide (z ∈ letS.cps.toList)) := in_one
        have k2 : inD M (.str ⟨#[z]⟩) (.str "0123456789") = some (decide (z ∈ digS.cps.toList)) := in_one
        have k3 : inD M (.str ⟨#[z]⟩) (.str "._#") = some (decide (z ∈ mrkS.cps.toList)) := in_one
        obtain ⟨b1, e1⟩ : ∃ b, b = decide (z ∈ letS.cps.toList) := ⟨_, rfl⟩
        obtain ⟨b2, e2⟩ : ∃ b, b = decide (z ∈ digS.cps.toList) := ⟨_, rfl⟩
        obtain ⟨b3, e3⟩ : ∃ b, b = decide (z ∈ mrkS.cps.toList) := ⟨_, rfl⟩
        rw [← e1] at k1
        rw [← e2] at k2
        rw [← e3] at k3
        have e : unkC z = (b1 || (b2 || b3)) := by unfold unkC; rw [e1, e2, e3]
        show evE (callN T n) f_is_unknown_c0 [some (.str x), some (.str ⟨#[z]⟩)] M = .ok (.bl (unkC z)) M
        rw [e]
        simp [f_is_unknown_c0, k1, k2, k3]
        cases b1 <;> cases b2 <;> rfl
    have h7 := bd_all (m := false) (M := M) (bools_map (f := unkC) (c :: r))
    have h6 := h6 _ rfl
    obtain ⟨b1, e1⟩ : ∃ b, b = decide (c ∈ letS.cps.toList) := ⟨_, rfl⟩
    obtain ⟨b2, e2⟩ : ∃ b, b = decide ((c :: r).length ≤ 60) := ⟨_, rfl⟩
    obtain ⟨b3, e3⟩ : ∃ b, b = (c :: r).all unkC := ⟨_, rfl⟩
    have e4 : ((c :: r).map unkC).all id = b3 := by rw [e3, List.all_map]; rfl
    rw [e4] at h7
    rw [← e1] at h4
    rw [← e2] at h2
    dsimp only
    rw [← e1, ← e2, ← e3]
    generalize (c :: r).map (fun c => D.str ⟨#[c]⟩) = ss at h5 h6
    generalize (c :: r).map (fun c => D.bl (unkC c)) = bs at h6 h7
    clear e1 e2 e3 e4 hx hL
    cases b2
    · simp [f_is_unknown, hl, h1, h2]
    · cases b1
      · simp [f_is_unknown, hl, h1, h2, h3, h4]
      · simp [f_is_unknown, hl, h1, h2, h3, h4, h5]
        rw [h6]
        simp [h7]
theorem unk_fit {x : Str} (h : unkB x = true) : fitLen x.length = true := by
  unfold unkB at h
  have hL := str_len (x := x)
  split at h
  · cases h
  · rename_i c r hx
    rw [hx] at hL
    rw [Bool.and_eq_true] at h
    have := of_decide_eq_true h.1
    exact decide_eq_true (by omega)
theorem is_unknown_gen {n : Nat} {x : Str} (h : unkB x = true) : Calc (callN T (n + 1)) "is_unknown" [.str x] (.bl true) := by
  have e := is_unknown_all (n := n) (unk_fit h)
  rw [h] at e
  exact e
theorem NL_unk : ∀ x ∈ NL, unkB x = true := by decide +kernel
theorem is_unknown_ok {n : Nat} {x : Str} (h : x ∈ NL) : Calc (callN T (n + 1)) "is_unknown" [.str x] (.bl true) := is_unknown_gen (NL_unk x h)
theorem is_integer_ok {n : Nat} {i : Int} : Calc (callN T (n + 1)) "is_integer" [.int i] (.bl true) :=
  own_call (fn := f_is_integer) (by kernel_rfl) rfl rfl rfl fun M => ⟨[], by rw [List.append_nil]; rfl⟩
theorem zip_asc : ∀ {xs : List Str}, xs.Pairwise (fun a b => ltStr a b = true) → ∀ d ∈ zipD (xs.map D.str) ((xs.map D.str).drop 1), ∃ a b, d = .pr [.str a, .str b] ∧ ltStr a b = true
  | [], _, d, h => by simp [zipD] at h
  | [x], _, d, h => by simp [zipD] at h
  | x :: y :: r, hp, d, h => by
    rw [List.pairwise_cons] at hp
    simp [zipD] at h
    rcases h with rfl | h
    · exact ⟨x, y, rfl, hp.1 y List.mem_cons_self⟩
    · exact zip_asc hp.2 d (by simpa [zipD] using h)
theorem asc_ok {n : Nat} {xs : List Str} (h : xs.Pairwise (fun a b => ltStr a b = true)) : Calc (callN T (n + 1)) "are_ascending" [.lst (xs.map .str)] (.bl true) := by
  refine own_call (fn := f_are_ascending) (by kernel_rfl) rfl rfl rfl fun M => ⟨[], ?_⟩
  rw [List.append_nil]
  have hc : cut (xs.map D.str) (some 1) none = (xs.map D.str).drop 1 := cut_from (k := 1)
  simp [f_are_ascending, slcD, hc]
  rw [comp_pure (p := fun _ => true) (q := fun _ => .bl true) fun d hd => ?_]
  · simp [bd_all_true]
  · obtain ⟨a, b, rfl, hl⟩ := zip_asc h d (by simpa using hd)
    exact ⟨_, rfl, rfl, fun _ => by simp [f_are_ascending_c0, hl]⟩
def prsD (l : List Str) (g : Str → Int) : List D := l.map fun n => .tup [.str n, .int (g n)]
def rowL (f : Str → Int) : List Str := NL.filter fun n => f n != 0
def fmD (c : Int) (f : Str → Int) : D := .tup [.int c, .tup (prsD (rowL f) f)]
def wtD (S : Str → Bool) (g : Str → Int) : D := .tup (prsD (NL.filter S) g)
theorem prs_len {l : List Str} {g : Str → Int} : (prsD l g).length = l.length := List.length_map _
theorem NL_asc : NL.Pairwise (fun a b => ltStr a b = true) := by decide +kernel
theorem worths_gen {n : Nat} {l : List Str} {g : Str → Int} {most : Int} (hp : l.Pairwise (fun a b => ltStr a b = true)) (hu : ∀ x ∈ l, unkB x = true) (hm : l.length ≤ most) : Calc (callN T (n + 2)) "are_worths" [.tup (prsD l g), .int most] (.bl true) := by
  refine own_call (fn := f_are_worths) (by kernel_rfl) rfl rfl rfl fun M => ⟨[], ?_⟩
  rw [List.append_nil]
  have hd : decide (most < ((prsD l g).length : Int)) = false := decide_eq_false (by rw [prs_len]; omega)
  simp [f_are_worths, hd]
  obtain ⟨env', M', h1, h2, h3⟩ := for_all (t := .n 2) (b := fun env M1 => evSs (callN T (n + 1)) f_are_worths_b0 env M1) (items := prsD l g) (env := [some (.tup (prsD l g)), some (.int most), none]) (M := M) (fun _ env M' => (∃ x, env = [some (.tup (prsD l g)), some (.int most), x]) ∧ M' = M) ⟨⟨_, rfl⟩, rfl⟩ (by
    rintro i d env M1 hi ⟨⟨x, rfl⟩, rfl⟩
    obtain ⟨z, hz, rfl⟩ := List.mem_map.mp (List.mem_of_getElem? hi)
    refine ⟨_, [some (.tup (prsD l g)), some (.int most), some (.tup [.str z, .int (g z)])], M1, rfl, ?_, ⟨_, rfl⟩, rfl⟩
    have h1 := is_unknown_gen (n := n) (hu z hz) M1
    have h2 := is_integer_ok (n := n) (i := g z) M1
    simp [f_are_worths_b0, h1, h2])
  rw [h1]
  obtain ⟨x, rfl⟩ := h2
  subst h3
  simp
  rw [comp_pure (p := fun _ => true) (q := fun d => (match d with | .tup (a :: _) => a | _ => .non)) fun d hd => ?_]
  · have e : ((prsD l g).filter fun _ => true).map (fun d => (match d with | .tup (a :: _) => a | _ => D.non)) = l.map D.str := by
      rw [List.filter_eq_self.mpr (fun _ _ => rfl), prsD, List.map_map]; rfl
    rw [e]
    simp
    rw [asc_ok hp]
    rfl
  · obtain ⟨z, hz, rfl⟩ := List.mem_map.mp hd
    exact ⟨_, rfl, rfl, fun _ => by simp [f_are_worths_c0]⟩
theorem worths_ok {n : Nat} {l : List Str} {g : Str → Int} {most : Int} (hl : l.Sublist NL) (hm : 12 ≤ most) : Calc (callN T (n + 2)) "are_worths" [.tup (prsD l g), .int most] (.bl true) := by
  have hlen : l.length ≤ 12 := hl.length_le
  exact worths_gen (NL_asc.sublist hl) (fun x hx => NL_unk x (hl.subset hx)) (by omega)
theorem row_sub (f : Str → Int) : (rowL f).Sublist NL := List.filter_sublist
theorem is_form_ok {n : Nat} {c : Int} {f : Str → Int} : Calc (callN T (n + 3)) "is_form" [fmD c f] (.bl true) := by
  refine own_call (fn := f_is_form) (by kernel_rfl) rfl rfl rfl fun M => ⟨[], ?_⟩
  rw [List.append_nil]
  have h1 := is_integer_ok (n := n + 1) (i := c) M
  have h2 := worths_ok (n := n) (g := f) (most := 200) (row_sub f) (by decide) M
  simp [f_is_form, fmD, h1, h2]
  rw [comp_pure (p := fun _ => true) (q := fun _ => .bl true) fun d hd => ?_]
  · simp [bd_all_true]
  · obtain ⟨z, hz, rfl⟩ := List.mem_map.mp hd
    have hz : f z ≠ 0 := by
      have := (List.mem_filter.mp hz).2
      simpa using this
    exact ⟨_, rfl, rfl, fun _ => by simp [f_is_form_c0, hz]⟩
theorem checked_form_ok {n : Nat} {c k : Int} {f : Str → Int} : Calc (callN T (n + 4)) "checked_form" [fmD c f, .int k] .non := by
  refine own_callN (fn := f_checked_form) (by kernel_rfl) rfl rfl fun M => ⟨[some (fmD c f), some (.int k)], [], ?_⟩
  rw [List.append_nil]
  have h1 := is_form_ok (n := n) (c := c) (f := f) M
  simp [f_checked_form, h1]
theorem checked_worths_gen {n : Nat} {k : Int} {l : List Str} {g : Str → Int} (hp : l.Pairwise (fun a b => ltStr a b = true)) (hu : ∀ x ∈ l, unkB x = true) (hm : l.length ≤ 2000) : Calc (callN T (n + 3)) "checked_worths" [.tup (prsD l g), .int k] .non := by
  refine own_callN (fn := f_checked_worths) (by kernel_rfl) rfl rfl fun M => ⟨[some (.tup (prsD l g)), some (.int k)], [], ?_⟩
  rw [List.append_nil]
  have h1 := worths_gen (n := n) (l := l) (g := g) (most := 2000) hp hu (by omega) M
  simp [f_checked_worths, h1]
theorem checked_worths_ok {n : Nat} {k : Int} {S : Str → Bool} {g : Str → Int} : Calc (callN T (n + 3)) "checked_worths" [wtD S g, .int k] .non := by
  refine own_callN (fn := f_checked_worths) (by kernel_rfl) rfl rfl fun M => ⟨[some (wtD S g), some (.int k)], [], ?_⟩
  rw [List.append_nil]
  have h1 := worths_ok (n := n) (l := NL.filter S) (g := g) (most := 2000) List.filter_sublist (by decide) M
  simp [f_checked_worths, wtD, h1]
theorem lt_le {l : List Str} (h : l.Pairwise (fun a b => ltStr a b = true)) : l.Pairwise LeS := h.imp fun h => ltStr_asym h
theorem NL_nd : NL.Nodup := by decide +kernel
/-- names, sorted and picked -/
theorem sort_pick {ks : List Str} {p : Str → Bool} (nd : ks.Nodup) (hs : ∀ k ∈ ks, k ∈ NL) (hp : ∀ n ∈ NL, p n = true → n ∈ ks) : (sortStr ks).filter p = NL.filter p := by
  refine sorted_one ((sortStr_sorted ks).sublist List.filter_sublist) ((lt_le NL_asc).sublist List.filter_sublist) ?_
  refine (List.perm_ext_iff_of_nodup (((sortStr_perm ks).nodup_iff.mpr nd).sublist List.filter_sublist) (NL_nd.sublist List.filter_sublist)).mpr fun n => ?_
  rw [List.mem_filter, List.mem_filter, (sortStr_perm ks).mem_iff]
  exact ⟨fun h => ⟨hs n h.1, h.2⟩, fun h => ⟨hp n h.1 h.2, h.2⟩⟩
/-- a dict that holds the factors h -/
structure DI (kvs : List (Key × D)) (h : Str → Int) : Prop where
  nd : (kvs.map (·.1)).Nodup
  mem : ∀ kv ∈ kvs, ∃ n ∈ NL, kv = (Sum.inr n, D.int (h n))
  all : ∀ n ∈ NL, h n ≠ 0 → (Sum.inr n : Key) ∈ kvs.map (·.1)
theorem DI.nil : DI [] fun _ => 0 := ⟨.nil, fun _ h => (nomatch h), fun _ _ h => absurd rfl h⟩
theorem find_key {kvs : List (Key × D)} {k : Key} : getK kvs k = none ↔ k ∉ kvs.map (·.1) := by
  unfold getK
  rw [Option.map_eq_none_iff, List.find?_eq_none]
  constructor
  · intro h hm
    obtain ⟨kv, h1, h2⟩ := List.mem_map.mp hm
    exact h kv h1 (by simp [h2])
  · intro h kv hm e
    exact h (List.mem_map.mpr ⟨kv, hm, of_decide_eq_true e⟩)
theorem DI.get {kvs : List (Key × D)} {h : Str → Int} (d : DI kvs h) {n : Str} (hn : n ∈ NL) : (getK kvs (Sum.inr n) = some (.int (h n)) ∨ (getK kvs (Sum.inr n) = none ∧ h n = 0)) := by
  cases e : getK kvs (Sum.inr n) with
  | none =>
    refine .inr ⟨rfl, ?_⟩
    have h1 := find_key.mp e
    by_cases h0 : h n = 0
    · exact h0
    · exact absurd (d.all n hn h0) h1
  | some v =>
    unfold getK at e
    cases e2 : kvs.find? (fun kv => decide (kv.1 = Sum.inr n)) with
    | none => rw [e2] at e; cases e
    | some kv =>
      rw [e2] at e
      have h1 := List.mem_of_find?_eq_some e2
      have h2 := List.find?_some e2
      obtain ⟨m, hm, rfl⟩ := d.mem kv h1
      have h3 : (Sum.inr m : Key) = Sum.inr n := of_decide_eq_true h2
      cases h3
      exact .inl e.symm
theorem DI.put {kvs : List (Key × D)} {h : Str → Int} (d : DI kvs h) {n : Str} (hn : n ∈ NL) (v : Int) : DI (putD (Sum.inr n) (.int v) kvs) (fun m => if m = n then v else h m) := by
  unfold putD
  by_cases hk : (kvs.any fun kv => decide (kv.1 = Sum.inr n)) = true
  · rw [if_pos hk]
    have hmap : (kvs.map fun kv => if kv.1 = (Sum.inr n : Key) then (kv.1, D.int v) else kv).map (·.1) = kvs.map (·.1) := by
      rw [List.map_map]
      apply List.map_congr_left
      intro kv _
      show (if kv.1 = (Sum.inr n : Key) then (kv.1, D.int v) else kv).1 = kv.1
      split <;> rfl
    refine ⟨by rw [hmap]; exact d.nd, fun kv hm => ?_, fun m hm h0 => ?_⟩
    · obtain ⟨kv0, h1, rfl⟩ := List.mem_map.mp hm
      obtain ⟨m, hm1, rfl⟩ := d.mem kv0 h1
      by_cases e : m = n
      · subst e; exact ⟨m, hm1, by simp⟩
      · exact ⟨m, hm1, by rw [if_neg (by simpa using e), if_neg e]⟩
    · rw [hmap]
      by_cases e : m = n
      · subst e
        rw [List.any_eq_true] at hk
        obtain ⟨kv, h1, h2⟩ := hk
        exact List.mem_map.mpr ⟨kv, h1, of_decide_eq_true h2⟩
      · rw [if_neg e] at h0
        exact d.all m hm h0
  · rw [if_neg hk]
    have hnk : (Sum.inr n : Key) ∉ kvs.map (·.1) := by
      intro hm
      obtain ⟨kv, h1, h2⟩ := List.mem_map.mp hm
      exact hk (List.any_eq_true.mpr ⟨kv, h1, decide_eq_true h2⟩)
    refine ⟨?_, fun kv hm => ?_, fun m hm h0 => ?_⟩
    · rw [List.map_append, List.nodup_append]
      refine ⟨d.nd, by simp, fun a ha b hb => ?_⟩
      simp at hb
      subst hb
      intro e; subst e; exact hnk ha
    · rcases List.mem_append.mp hm with hm | hm
      · obtain ⟨m, hm1, rfl⟩ := d.mem kv hm
        have e : m ≠ n := fun e => hnk (List.mem_map.mpr ⟨_, hm, by rw [e]⟩)
        exact ⟨m, hm1, by rw [if_neg e]⟩
      · rw [List.mem_singleton] at hm
        subst hm
        exact ⟨n, hn, by rw [if_pos rfl]⟩
    · rw [List.map_append, List.mem_append]
      by_cases e : m = n
      · subst e; exact .inr (by simp)
      · rw [if_neg e] at h0
        exact .inl (d.all m hm h0)
/-- its keys -/
theorem DI.keys {kvs : List (Key × D)} {h : Str → Int} (d : DI kvs h) : ∃ ks : List Str, kvs.map (·.1) = ks.map Sum.inr ∧ ks.Nodup ∧ (∀ k ∈ ks, k ∈ NL) ∧ (∀ n ∈ NL, h n ≠ 0 → n ∈ ks) ∧ ks.length ≤ 12 := by
  have key : ∀ l : List (Key × D), (∀ kv ∈ l, ∃ n ∈ NL, kv = (Sum.inr n, D.int (h n))) → ∃ ks : List Str, l.map (·.1) = ks.map Sum.inr ∧ ∀ k ∈ ks, k ∈ NL := by
    intro l
    induction l with
    | nil => intro _; exact ⟨[], rfl, fun _ h => (nomatch h)⟩
    | cons kv r ih =>
      intro hm
      obtain ⟨n, hn, rfl⟩ := hm kv List.mem_cons_self
      obtain ⟨ks, h1, h2⟩ := ih fun kv hk => hm kv (List.mem_cons_of_mem _ hk)
      refine ⟨n :: ks, by rw [List.map_cons, List.map_cons, h1], fun k hk => ?_⟩
      rcases List.mem_cons.mp hk with rfl | hk
      · exact hn
      · exact h2 k hk
  obtain ⟨ks, h1, h2⟩ := key kvs d.mem
  have nd : ks.Nodup := by
    have h3 := d.nd
    rw [h1] at h3
    exact (List.pairwise_map.mp h3).imp fun {a b} h e => h (by rw [e])
  refine ⟨ks, h1, nd, h2, fun n hn h0 => ?_, ?_⟩
  · have h3 := d.all n hn h0
    rw [h1] at h3
    obtain ⟨m, hm, e⟩ := List.mem_map.mp h3
    cases e
    exact hm
  · have e := sort_pick (p := fun n => decide (n ∈ ks)) nd h2 fun n _ hp => of_decide_eq_true hp
    have e2 : (sortStr ks).filter (fun n => decide (n ∈ ks)) = sortStr ks := List.filter_eq_self.mpr fun n hn => decide_eq_true ((sortStr_perm ks).mem_iff.mp hn)
    rw [e2] at e
    have e3 := congrArg List.length e
    rw [(sortStr_perm ks).length_eq] at e3
    have h4 : (NL.filter fun n => decide (n ∈ ks)).length ≤ NL.length := List.length_filter_le _ _
    rw [← e3] at h4
    exact h4
theorem DI.len {kvs : List (Key × D)} {h : Str → Int} (d : DI kvs h) : kvs.length ≤ 12 := by
  obtain ⟨ks, h1, _, _, _, h2⟩ := d.keys
  have h3 := congrArg List.length h1
  rw [List.length_map, List.length_map] at h3
  omega
theorem prs_pure {l : List Str} {g : Str → Int} : D.pures (prsD l g) = true := by
  induction l with
  | nil => rfl
  | cons x r ih => show (D.pure (.tup [.str x, .int (g x)]) && D.pures (prsD r g)) = true; rw [ih]; rfl
theorem fm_pure {c : Int} {f : Str → Int} : (fmD c f).pure = true := by
  show (D.pure (.int c) && (D.pures (prsD (rowL f) f) && true)) = true
  rw [prs_pure]; rfl
theorem wt_pure {S : Str → Bool} {g : Str → Int} : (wtD S g).pure = true := prs_pure
theorem form_of_ok {n : Nat} {c : Int} {h : Str → Int} {kvs : List (Key × D)} {M : Sto} {a : Nat} (hM : M[a]? = some (.dct kvs)) (d : DI kvs h) : callN T (n + 1) "form_of" [.int c, .loc a] M = .ok (fmD c h) M := by
  refine own_callM (fn := f_form_of) (by kernel_rfl) rfl rfl fm_pure ⟨[], ?_⟩
  rw [List.append_nil]
  obtain ⟨ks, h1, h2, h3, h4, h5⟩ := d.keys
  have e1 : biD .list false [.loc a] M = .ok (.lst (ks.map .str)) M := by
    show (match M[a]? with
      | some (.lst xs) => newList false xs M
      | some (.dct kvs) => newList false (kvs.map fun kv : Key × D => keyD kv.1) M
      | _ => .fail) = _
    rw [hM]
    have : (kvs.map fun kv => keyD kv.1) = ks.map D.str := by
      have := congrArg (List.map keyD) h1
      rw [List.map_map, List.map_map] at this
      exact this
    show newList false (kvs.map fun kv : Key × D => keyD kv.1) M = _
    rw [this]; rfl
  have e2 : biD .sorted false [.lst (ks.map .str)] M = .ok (.lst ((sortStr ks).map .str)) M := by
    show (ofO (strsD (ks.map .str)) M).bind _ = _
    rw [show strsD (ks.map D.str) = some ks from by have := strs_map (f := fun x => x) ks; simpa using this]
    have hf : fitLen ks.length = true := decide_eq_true (by omega)
    show (if fitLen ks.length = true then _ else _) = _
    rw [if_pos hf]; rfl
  simp [f_form_of, e1, e2]
  rw [comp_pure (p := fun d => (match d with | .str n => h n != 0 | _ => false)) (q := fun d => (match d with | .str n => .tup [.str n, .int (h n)] | _ => .non)) fun d' hd => ?_]
  · have e3 : (((sortStr ks).map D.str).filter fun d => (match d with | .str n => h n != 0 | _ => false)).map (fun d => (match d with | .str n => D.tup [.str n, .int (h n)] | _ => .non)) = prsD (rowL h) h := by
      rw [List.filter_map, List.map_map]
      show ((sortStr ks).filter fun n => h n != 0).map (fun n => D.tup [.str n, .int (h n)]) = _
      rw [sort_pick h2 h3 fun n hn hp => h4 n hn (by simpa using hp)]
      rfl
    rw [e3]
    simp [fmD]
  · obtain ⟨x, hx, rfl⟩ := List.mem_map.mp hd
    have hx : x ∈ NL := h3 x ((sortStr_perm ks).mem_iff.mp hx)
    have hg : getK kvs (Sum.inr x) = some (.int (h x)) := by
      rcases d.get hx with e | ⟨e, _⟩
      · exact e
      · have := find_key.mp e
        rw [h1] at this
        exact absurd (List.mem_map_of_mem ((sortStr_perm ks).mem_iff.mp (by assumption))) this
    have hi : idxD M (.loc a) (.str x) = some (.int (h x)) := by
      show (match M[a]?, D.str x with
        | some (.lst xs), .int i => itemAt xs i
        | some (.dct kvs), .str x => getK kvs (Sum.inr x)
        | some (.dct kvs), .int x => getK kvs (Sum.inl x)
        | _, _ => none) = _
      rw [hM]; exact hg
    refine ⟨_, rfl, ?_, fun _ => ?_⟩
    · simp [f_form_of_k0, hi]
      by_cases h0 : h x = 0 <;> simp [h0]
    · simp [f_form_of_c0, hi]
theorem DI.congr {kvs : List (Key × D)} {h h' : Str → Int} (d : DI kvs h) (e : ∀ n ∈ NL, h n = h' n) : DI kvs h' :=
  ⟨d.nd, fun kv hm => by obtain ⟨n, hn, rfl⟩ := d.mem kv hm; exact ⟨n, hn, by rw [e n hn]⟩, fun n hn h0 => d.all n hn (by rw [e n hn]; exact h0)⟩
theorem get_ok {P : Sto} {kvs : List (Key × D)} {h : Str → Int} (d : DI kvs h) {n : Str} (hn : n ∈ NL) : kindM .get (P ++ [.dct kvs]) (.loc P.length) = true ∧ mthD .get (.loc P.length) [.str n, .int 0] (P ++ [.dct kvs]) = .ok (.int (h n)) (P ++ [.dct kvs]) := by
  refine ⟨kd_get at_last, ?_⟩
  rw [md_get at_last]
  rcases d.get hn with e | ⟨e, e2⟩
  · rw [e]; rfl
  · rw [e, e2]; rfl
theorem put_ok {P : Sto} {kvs : List (Key × D)} {n : Str} {v : D} (hl : kvs.length ≤ 1000000) : setIx (.loc P.length) (.str n) v (P ++ [.dct kvs]) = .ok () (P ++ [.dct (putD (Sum.inr n) v kvs)]) := by
  rw [si_dct at_last hl, set_last]
theorem inner_ok {C : Calls} {P : Sto} {f : Str → Int} {a : Int} {p0 p1 p3 : Option D} : ∀ (l : List Str) (kvs : List (Key × D)) (h : Str → Int) (x5 x6 : Option D), (∀ n ∈ l, n ∈ NL) → l.Nodup → (∀ n ∈ l, mulOk (f n) a = true) → DI kvs h →
    ∃ x5' x6' kvs', forGo (.t [5, 6]) (fun env M => evSs C f_sum_of_b0 env M) (prsD l f) [p0, p1, some (.loc P.length), p3, some (.int a), x5, x6] (P ++ [.dct kvs]) = .ok (.nx [p0, p1, some (.loc P.length), p3, some (.int a), x5', x6']) (P ++ [.dct kvs']) ∧
      DI kvs' (fun n => h n + if n ∈ l then f n * a else 0)
  | [], kvs, h, x5, x6, _, _, _, d => ⟨x5, x6, kvs, rfl, d.congr fun n _ => by simp⟩
  | n :: r, kvs, h, x5, x6, hl, nd, hm, d => by
    have hn := hl n List.mem_cons_self
    obtain ⟨g1, g2⟩ := get_ok (P := P) d hn
    have hk : kvs.length ≤ 1000000 := Nat.le_trans d.len (by decide)
    have g3 := put_ok (P := P) (kvs := kvs) (n := n) (v := .int (h n + f n * a)) hk
    have g4 := bn_mul (M := P ++ [.dct kvs]) (hm n List.mem_cons_self)
    obtain ⟨nd1, nd2⟩ := List.nodup_cons.mp nd
    obtain ⟨x5', x6', kvs', e1, e2⟩ := inner_ok (C := C) (P := P) (f := f) (a := a) (p0 := p0) (p1 := p1) (p3 := p3) r _ _ (some (.str n)) (some (.int (f n))) (fun m hm => hl m (List.mem_cons_of_mem _ hm)) nd2 (fun m h => hm m (List.mem_cons_of_mem _ h)) (d.put hn (h n + f n * a))
    refine ⟨x5', x6', kvs', ?_, e2.congr fun m hm => ?_⟩
    · show forGo _ _ (.tup [.str n, .int (f n)] :: prsD r f) _ _ = _
      unfold forGo
      simp [f_sum_of_b0, g1, g2, g3, g4]
      exact e1
    · by_cases e : m = n
      · subst e; simp [nd1]
      · simp [e]
theorem row_mem {f : Str → Int} {n : Str} (hn : n ∈ NL) : n ∈ rowL f ↔ f n ≠ 0 := by
  unfold rowL
  rw [List.mem_filter]
  simp [hn]
theorem rowL_nd (f : Str → Int) : (rowL f).Nodup := NL_nd.sublist List.filter_sublist
/-- one pair of a sum -/
structure Term where
  c : Int
  f : Str → Int
  a : Int
def Term.d (t : Term) : D := .tup [fmD t.c t.f, .int t.a]
def Term.ok (t : Term) : Prop := mulOk t.c t.a = true ∧ ∀ n ∈ NL, mulOk (t.f n) t.a = true
def sumC (ts : List Term) : Int := (ts.map fun t => t.c * t.a).sum
def sumF (ts : List Term) (n : Str) : Int := (ts.map fun t => t.f n * t.a).sum
theorem outer_ok {C : Calls} {P : Sto} {p0 : Option D} : ∀ (ts : List Term) (c : Int) (kvs : List (Key × D)) (h : Str → Int) (x3 x4 x5 x6 : Option D), (∀ t ∈ ts, t.ok) → DI kvs h →
    ∃ x3' x4' x5' x6' kvs', forGo (.t [3, 4]) (fun env M => evSs C f_sum_of_b1 env M) (ts.map Term.d) [p0, some (.int c), some (.loc P.length), x3, x4, x5, x6] (P ++ [.dct kvs]) = .ok (.nx [p0, some (.int (c + sumC ts)), some (.loc P.length), x3', x4', x5', x6']) (P ++ [.dct kvs']) ∧
      DI kvs' (fun n => h n + sumF ts n)
  | [], c, kvs, h, x3, x4, x5, x6, _, d => ⟨x3, x4, x5, x6, kvs, by simp [sumC, forGo], d.congr fun n _ => by simp [sumF]⟩
  | t :: r, c, kvs, h, x3, x4, x5, x6, ht, d => by
    obtain ⟨t1, t2⟩ := ht t List.mem_cons_self
    obtain ⟨y5, y6, kvs1, e1, e2⟩ := inner_ok (C := C) (P := P) (f := t.f) (a := t.a) (p0 := p0) (p1 := some (.int (c + t.c * t.a))) (p3 := some (fmD t.c t.f)) (rowL t.f) kvs h x5 x6 (fun n hn => (row_sub _).subset hn) (rowL_nd _) (fun n hn => t2 n ((row_sub _).subset hn)) d
    obtain ⟨x3', x4', x5', x6', kvs', e3, e4⟩ := outer_ok (C := C) (P := P) (p0 := p0) r (c + t.c * t.a) kvs1 _ (some (fmD t.c t.f)) (some (.int t.a)) y5 y6 (fun t h => ht t (List.mem_cons_of_mem _ h)) e2
    refine ⟨x3', x4', x5', x6', kvs', ?_, e4.congr fun m hm => ?_⟩
    · have g := bn_mul (M := P ++ [.dct kvs]) t1
      show forGo _ _ (.tup [fmD t.c t.f, .int t.a] :: r.map Term.d) _ _ = _
      unfold forGo
      have s : sumC (t :: r) = t.c * t.a + sumC r := by simp [sumC]
      rw [s]
      have e3' := e3
      simp only [Int.add_assoc] at e3' e1 ⊢
      simp [f_sum_of_b1, fmD, g] at e1 e3' ⊢
      rw [e1]
      exact e3'
    · have s : sumF (t :: r) m = t.f m * t.a + sumF r m := by simp [sumF]
      rw [s]
      by_cases e : t.f m = 0
      · have : m ∉ rowL t.f := fun h => (row_mem hm).mp h e
        simp [this, e]
      · have : m ∈ rowL t.f := (row_mem hm).mpr e
        simp [this]
        omega
theorem fm_congr {c : Int} {f g : Str → Int} (h : ∀ n ∈ NL, f n = g n) : fmD c f = fmD c g := by
  have e : rowL f = rowL g := List.filter_congr fun n hn => by rw [h n hn]
  unfold fmD prsD
  rw [e]
  congr 4
  apply List.map_congr_left
  intro n hn
  rw [h n ((row_sub g).subset hn)]
theorem sum_of_ok {n : Nat} {ts : List Term} (h : ∀ t ∈ ts, t.ok) : Calc (callN T (n + 2)) "sum_of" [.lst (ts.map Term.d)] (fmD (sumC ts) (sumF ts)) := by
  intro M
  obtain ⟨x3, x4, x5, x6, kvs, e1, e2⟩ := outer_ok (C := callN T (n + 1)) (P := M) (p0 := some (.lst (ts.map Term.d))) ts 0 [] (fun _ => 0) none none none none h DI.nil
  refine own_callM (fn := f_sum_of) (by kernel_rfl) rfl rfl fm_pure ⟨[.dct kvs], ?_⟩
  simp at e1
  have e3 := form_of_ok (n := n) (c := sumC ts) (h := sumF ts) (at_last (M := M) (o := .dct kvs)) (e2.congr fun m _ => by simp)
  simp [f_sum_of]
  rw [e1]
  simp [e3]
theorem mul1 {i : Int} {b : Nat} (h : i.natAbs < 2 ^ b) (hb : b ≤ 900000) {a : Int} {c : Nat} (ha : a.natAbs < 2 ^ c) (hc : c ≤ 90000) : mulOk i a = true := by
  have key : ∀ {i : Int} {b : Nat}, i.natAbs < 2 ^ b → i.natAbs.log2 ≤ b := by
    intro i b h
    by_cases h0 : i.natAbs = 0
    · rw [h0]; simp
    · exact Nat.le_of_lt ((Nat.log2_lt h0).mpr h)
  have h1 := key h
  have h2 := key ha
  exact decide_eq_true (by omega)
/-- small numbers -/
structure Sm (b : Nat) (c : Int) (f : Str → Int) : Prop where
  c : c.natAbs < 2 ^ b
  f : ∀ n ∈ NL, (f n).natAbs < 2 ^ b
theorem Sm.ok {b k : Nat} {c a : Int} {f : Str → Int} (s : Sm b c f) (hb : b ≤ 900000) (ha : a.natAbs < 2 ^ k) (hk : k ≤ 90000) : (Term.mk c f a).ok := ⟨mul1 s.c hb ha hk, fun n hn => mul1 (s.f n hn) hb ha hk⟩
section
variable {n b b' : Nat} {c c' k : Int} {f f' : Str → Int}
theorem sum2 {a a' : Int} (h : (Term.mk c f a).ok) (h' : (Term.mk c' f' a').ok) : Calc (callN T (n + 2)) "sum_of" [.lst [.tup [fmD c f, .int a], .tup [fmD c' f', .int a']]] (fmD (c * a + c' * a') (fun n => f n * a + f' n * a')) := by
  have e := sum_of_ok (n := n) (ts := [⟨c, f, a⟩, ⟨c', f', a'⟩]) (by
    intro t ht
    rcases List.mem_cons.mp ht with rfl | ht
    · exact h
    · rw [List.mem_singleton] at ht; subst ht; exact h')
  have e1 : sumC [⟨c, f, a⟩, ⟨c', f', a'⟩] = c * a + c' * a' := by simp [sumC]
  have e2 : sumF [⟨c, f, a⟩, ⟨c', f', a'⟩] = fun n => f n * a + f' n * a' := by funext n; simp [sumF]
  rw [e1, e2] at e
  exact e
/-! ### a form put for a name -/
theorem factor_loop {C : Calls} {M : Sto} {x : Str} {p0 : Option D} : ∀ (l : List Str) (y2 y3 : Option D), (x ∈ l → forGo (.t [2, 3]) (fun env M => evSs C f_factor_in_b0 env M) (prsD l f) [p0, some (.str x), y2, y3] M = .ok (.ret (.int (f x))) M) ∧
    (x ∉ l → ∃ y2' y3', forGo (.t [2, 3]) (fun env M => evSs C f_factor_in_b0 env M) (prsD l f) [p0, some (.str x), y2, y3] M = .ok (.nx [p0, some (.str x), y2', y3']) M)
  | [], y2, y3 => ⟨fun h => (nomatch h), fun _ => ⟨y2, y3, rfl⟩⟩
  | m :: r, y2, y3 => by
    obtain ⟨i1, i2⟩ := factor_loop (C := C) (M := M) (x := x) (p0 := p0) r (some (.str m)) (some (.int (f m)))
    by_cases e : m = x
    · subst e
      refine ⟨fun _ => ?_, fun h => absurd List.mem_cons_self h⟩
      show forGo _ _ (.tup [.str m, .int (f m)] :: prsD r f) _ _ = _
      unfold forGo
      simp [f_factor_in_b0]
    · have e' : (m == x) = false := by simpa using e
      have s : ∀ o, forGo (.t [2, 3]) (fun env M => evSs C f_factor_in_b0 env M) (prsD r f) [p0, some (.str x), some (.str m), some (.int (f m))] M = o → forGo (.t [2, 3]) (fun env M => evSs C f_factor_in_b0 env M) (prsD (m :: r) f) [p0, some (.str x), y2, y3] M = o := by
        intro o h
        show forGo _ _ (.tup [.str m, .int (f m)] :: prsD r f) _ _ = _
        unfold forGo
        simp [f_factor_in_b0, e']
        exact h
      refine ⟨fun h => s _ (i1 ?_), fun h => ?_⟩
      · rcases List.mem_cons.mp h with h | h
        · exact absurd h.symm e
        · exact h
      · obtain ⟨y2', y3', h'⟩ := i2 fun z => h (List.mem_cons_of_mem _ z)
        exact ⟨y2', y3', s _ h'⟩
theorem factor_in_ok {x : Str} (hx : x ∈ NL) : Calc (callN T (n + 1)) "factor_in" [fmD c f, .str x] (.int (f x)) := by
  refine own_call (fn := f_factor_in) (by kernel_rfl) rfl rfl rfl fun M => ⟨[], ?_⟩
  rw [List.append_nil]
  obtain ⟨i1, i2⟩ := factor_loop (f := f) (C := callN T n) (M := M) (x := x) (p0 := some (fmD c f)) (rowL f) none none
  by_cases h : x ∈ rowL f
  · have e := i1 h
    simp [f_factor_in, fmD] at e ⊢
    rw [e]; rfl
  · obtain ⟨y2, y3, e⟩ := i2 h
    have h0 : f x = 0 := by
      by_cases h0 : f x = 0
      · exact h0
      · exact absurd ((row_mem hx).mpr h0) h
    simp [f_factor_in, fmD] at e ⊢
    rw [e, h0]; simp
def putF (f g : Str → Int) (x : Str) : Str → Int := fun n => (if n = x then 0 else f n) + g n * f x
theorem exchanged_ok {x : Str} (hx : x ∈ NL) (s : Sm b c f) (s' : Sm b' c' f') (hb : b ≤ 90000) (hb' : b' ≤ 900000) : Calc (callN T (n + 3)) "exchanged" [fmD c f, .str x, fmD c' f'] (fmD (c + c' * f x) (putF f f' x)) := by
  refine own_call (fn := f_exchanged) (by kernel_rfl) rfl rfl fm_pure fun M => ⟨[], ?_⟩
  rw [List.append_nil]
  have h1 := factor_in_ok (n := n + 1) (c := c) (f := f) hx M
  have s0 : Sm b c (fun n => if n = x then 0 else f n) := ⟨s.c, fun n hn => by
    show (if n = x then (0 : Int) else f n).natAbs < _
    split
    · exact Nat.two_pow_pos _
    · exact s.f n hn⟩
  have h2 := sum2 (n := n) (s0.ok (a := 1) (k := 1) (by omega) (by decide) (by decide)) (s'.ok (a := f x) (k := b) hb' (s.f x hx) hb) M
  have e1 : c * 1 + c' * f x = c + c' * f x := by omega
  have e2 : (fun n => (if n = x then 0 else f n) * 1 + f' n * f x) = putF f f' x := by funext n; unfold putF; omega
  rw [e1, e2] at h2
  simp only [fmD] at h2
  simp [f_exchanged, fmD] at h1 ⊢
  rw [h1]
  simp
  rw [comp_pure (p := fun d => (match d with | .tup (.str m :: _) => !(m == x) | _ => false)) (q := fun d => d) fun d hd => ?_]
  · have e3 : ((prsD (rowL f) f).filter fun d => (match d with | .tup (.str m :: _) => !(m == x) | _ => false)).map (fun d => d) = prsD (rowL fun n => if n = x then 0 else f n) (fun n => if n = x then 0 else f n) := by
      rw [List.map_id']
      unfold prsD
      rw [List.filter_map]
      have e4 : (rowL f).filter ((fun d => (match d with | .tup (.str m :: _) => !(m == x) | _ => false)) ∘ fun n => D.tup [.str n, .int (f n)]) = rowL fun n => if n = x then 0 else f n := by
        unfold rowL
        rw [List.filter_filter]
        apply List.filter_congr
        intro m _
        show ((!(m == x)) && (f m != 0)) = ((if m = x then (0 : Int) else f m) != 0)
        by_cases e : m = x
        · subst e; simp
        · simp [e]
      rw [e4]
      apply List.map_congr_left
      intro m hm
      have hm := (List.mem_filter.mp hm).2
      by_cases e : m = x
      · subst e; simp at hm
      · simp [e]
    rw [e3]
    simp
    rw [h2]
    simp [fmD]
  · obtain ⟨m, hm, rfl⟩ := List.mem_map.mp hd
    exact ⟨_, rfl, by simp [f_exchanged_k0], fun _ => by simp [f_exchanged_c0]⟩
theorem put_for_ok {x : Str} (hx : x ∈ NL) (s : Sm b c f) (s' : Sm b' c' f') (hb : b ≤ 90000) (hb' : b' ≤ 900000) : Calc (callN T (n + 5)) "put_for" [fmD c f, .str x, fmD c' f'] (fmD (c + c' * f x) (putF f f' x)) := by
  refine own_call (fn := f_put_for) (by kernel_rfl) rfl rfl fm_pure fun M => ⟨[], ?_⟩
  rw [List.append_nil]
  have h1 := checked_form_ok (n := n) (c := c) (f := f) (k := 0) M
  have h2 := checked_form_ok (n := n) (c := c') (f := f') (k := 2) M
  have h3 := exchanged_ok (n := n + 1) hx s s' hb hb' M
  have h4 := is_form_ok (n := n + 1) (c := c + c' * f x) (f := putF f f' x) M
  have h5 := is_unknown_ok (n := n + 3) hx M
  simp [f_put_for, h1, h2, h3, h4, h5]
end
/-! ### worths -/
def wd (l : List Str) (g : Str → Int) : List (Key × D) := l.map fun n => (Sum.inr n, .int (g n))
theorem pairs_prs {g : Str → Int} : ∀ l : List Str, pairsK (prsD l g) = some (wd l g)
  | [] => rfl
  | n :: r => by
    show (pairsK (prsD r g)).map _ = _
    rw [pairs_prs r]; rfl
theorem fold_wd {g : Str → Int} : ∀ (l : List Str) (acc : List (Key × D)), l.Nodup → (∀ n ∈ l, (Sum.inr n : Key) ∉ acc.map (·.1)) → (wd l g).foldl (fun a kv => putD kv.1 kv.2 a) acc = acc ++ wd l g
  | [], acc, _, _ => by simp [wd]
  | n :: r, acc, nd, h => by
    obtain ⟨n1, n2⟩ := List.nodup_cons.mp nd
    have e : putD (Sum.inr n) (D.int (g n)) acc = acc ++ [(Sum.inr n, .int (g n))] := by
      unfold putD
      rw [if_neg]
      rw [List.any_eq_true]
      rintro ⟨kv, h1, h2⟩
      exact h n List.mem_cons_self (List.mem_map.mpr ⟨kv, h1, of_decide_eq_true h2⟩)
    show (wd r g).foldl _ (putD (Sum.inr n) (D.int (g n)) acc) = _
    rw [e, fold_wd r _ n2 fun m hm => ?_]
    · simp [wd]
    · rw [List.map_append, List.mem_append]
      rintro (z | z)
      · exact h m (List.mem_cons_of_mem _ hm) z
      · simp at z
        subst z
        exact n1 hm
theorem dict_wt {S : Str → Bool} {g : Str → Int} {m : Bool} {M : Sto} : biD .dict m [wtD S g] M = .ok (.loc M.length) (M ++ [.dct (wd (NL.filter S) g)]) := by
  unfold wtD
  rw [bd_dict (pairs_prs _), fold_wd _ _ (NL_nd.sublist List.filter_sublist) (fun _ _ h => by simp at h)]
  rfl
theorem getK_wd {l : List Str} {g : Str → Int} {x : Str} : getK (wd l g) (Sum.inr x) = if x ∈ l then some (.int (g x)) else none := by
  induction l with
  | nil => rfl
  | cons n r ih =>
    unfold getK wd at *
    rw [List.map_cons, List.find?_cons]
    by_cases e : n = x
    · subst e; simp
    · have : decide ((Sum.inr n : Key) = Sum.inr x) = false := decide_eq_false (by simpa using e)
      simp only [this]
      rw [ih]
      simp [Ne.symm e]
theorem any_wd {l : List Str} {g : Str → Int} {x : Str} : ((wd l g).any fun kv => decide (kv.1 = Sum.inr x)) = decide (x ∈ l) := by
  rw [Bool.eq_iff_iff, List.any_eq_true, decide_eq_true_eq]
  constructor
  · rintro ⟨kv, h1, h2⟩
    obtain ⟨n, hn, rfl⟩ := List.mem_map.mp h1
    have h2 := of_decide_eq_true h2
    cases h2
    exact hn
  · intro h
    exact ⟨_, List.mem_map.mpr ⟨x, h, rfl⟩, decide_eq_true rfl⟩
/-- a form's worth -/
def wv (c : Int) (f G : Str → Int) : Int := c + (NL.map fun n => f n * G n).sum
theorem sum_row (f G : Str → Int) : ∀ l : List Str, ((l.filter fun n => f n != 0).map fun n => f n * G n).sum = (l.map fun n => f n * G n).sum
  | [] => rfl
  | n :: r => by
    rw [List.filter_cons, List.map_cons, List.sum_cons]
    by_cases e : f n = 0
    · simp [e]
      have := sum_row f G r
      simpa using this
    · have e' : (f n != 0) = true := by simpa using e
      rw [if_pos e', List.map_cons, List.sum_cons, sum_row f G r]
def gW (S : Str → Bool) (g : Str → Int) (n : Str) : Int := if S n then g n else 0
theorem mem_S {S : Str → Bool} {n : Str} (h : n ∈ NL) : n ∈ NL.filter S ↔ S n = true := by rw [List.mem_filter]; simp [h]
section
variable {n b b' : Nat} {c c' k : Int} {f f' g : Str → Int} {S : Str → Bool}
/-- what a dict of worths tells of the names -/
def WK (kvs : List (Key × D)) (G : Str → Int) : Prop := ∀ n ∈ NL, (getK kvs (Sum.inr n)).getD (.int 0) = .int (G n)
theorem wd_WK {S : Str → Bool} {g : Str → Int} : WK (wd (NL.filter S) g) (gW S g) := fun x hx => by
  rw [getK_wd]
  unfold gW
  by_cases h : S x = true
  · rw [if_pos ((mem_S hx).mpr h), if_pos h]; rfl
  · rw [if_neg fun z => h ((mem_S hx).mp z), if_neg h]; rfl
theorem worth_of_gen {M : Sto} {a : Nat} {kvs : List (Key × D)} {G : Str → Int} (hM : M[a]? = some (.dct kvs)) (hW : WK kvs G) (hm : ∀ n ∈ NL, mulOk (f n) (G n) = true) : callN T (n + 1) "worth_of" [fmD c f, .loc a] M = .ok (.int (wv c f G)) M := by
  refine own_callM (fn := f_worth_of) (by kernel_rfl) rfl rfl rfl ⟨[], ?_⟩
  rw [List.append_nil]
  simp [f_worth_of, fmD]
  rw [comp_pure (p := fun _ => true) (q := fun d => (match d with | .tup [.str x, .int i] => .int (i * G x) | _ => .non)) fun d hd => ?_]
  · have e : ((prsD (rowL f) f).filter fun _ => true).map (fun d => (match d with | .tup [.str x, .int i] => D.int (i * G x) | _ => .non)) = (rowL f).map fun n => D.int (f n * G n) := by
      rw [List.filter_eq_self.mpr (fun _ _ => rfl), prsD, List.map_map]; rfl
    rw [e]
    have e2 := bd_sum (M := M) (m := false) (ints_map (f := fun n => f n * G n) (rowL f))
    simp [e2]
    unfold wv
    rw [← sum_row f G NL]
    rfl
  · obtain ⟨x, hx, rfl⟩ := List.mem_map.mp hd
    have hx := (row_sub f).subset hx
    have e3 : mthD .get (.loc a) [.str x, .int 0] M = .ok (.int (G x)) M := by
      rw [md_get hM, hW x hx]
    refine ⟨_, rfl, rfl, fun _ => ?_⟩
    simp [f_worth_of_c0, kd_get hM, e3, bn_mul (hm x hx)]
theorem worth_of_ok {M : Sto} {a : Nat} (hM : M[a]? = some (.dct (wd (NL.filter S) g))) (hm : ∀ n ∈ NL, mulOk (f n) (gW S g n) = true) : callN T (n + 1) "worth_of" [fmD c f, .loc a] M = .ok (.int (wv c f (gW S g))) M := worth_of_gen hM wd_WK hm
theorem worth_ok (hm : ∀ n ∈ NL, mulOk (f n) (gW S g n) = true) : Calc (callN T (n + 5)) "worth" [fmD c f, wtD S g] (.int (wv c f (gW S g))) := by
  intro M
  refine own_callM (fn := f_worth) (by kernel_rfl) rfl rfl rfl ⟨[.dct (wd (NL.filter S) g)], ?_⟩
  have h1 := checked_form_ok (n := n) (c := c) (f := f) (k := 0) M
  have h2 := checked_worths_ok (n := n + 1) (S := S) (g := g) (k := 1) M
  have h3 := dict_wt (S := S) (g := g) (m := false) (M := M)
  have h4 := worth_of_ok (n := n + 3) (c := c) (at_last (M := M) (o := .dct (wd (NL.filter S) g))) hm
  simp [f_worth, h1, h2, h3, h4]
theorem law_worth_loop {C : Calls} {M : Sto} {a : Nat} {p0 p1 : Option D} (hM : M[a]? = some (.dct (wd (NL.filter S) g))) : ∀ (l : List Str) (v : Int) (y4 y5 : Option D), (∀ n ∈ l, n ∈ NL) → (∀ n ∈ l, mulOk (f n) (gW S g n) = true) →
    ∃ y4' y5', forGo (.t [4, 5]) (fun env M => evSs C f_law_worth_b0 env M) (prsD l f) [p0, p1, some (.loc a), some (.int v), y4, y5] M = .ok (.nx [p0, p1, some (.loc a), some (.int (v + (l.map fun n => f n * gW S g n).sum)), y4', y5']) M
  | [], v, y4, y5, _, _ => ⟨y4, y5, by simp [prsD, forGo]⟩
  | x :: r, v, y4, y5, hl, hm => by
    have hx := hl x List.mem_cons_self
    obtain ⟨y4', y5', e⟩ := law_worth_loop (C := C) (p0 := p0) (p1 := p1) hM r (v + f x * gW S g x) (some (.str x)) (some (.int (f x))) (fun n h => hl n (List.mem_cons_of_mem _ h)) (fun n h => hm n (List.mem_cons_of_mem _ h))
    refine ⟨y4', y5', ?_⟩
    have g1 := bn_mul (M := M) (hm x List.mem_cons_self)
    have g2 : inD M (.str x) (.loc a) = some (S x) := by
      rw [in_dct hM, any_wd]
      congr 1
      rw [Bool.eq_iff_iff, decide_eq_true_eq]
      exact mem_S hx
    have g3 : S x = true → idxD M (.loc a) (.str x) = some (.int (g x)) := fun h => by
      rw [ix_dct hM, getK_wd, if_pos ((mem_S hx).mpr h)]
    show forGo _ _ (.tup [.str x, .int (f x)] :: prsD r f) _ _ = _
    unfold forGo
    rw [List.map_cons, List.sum_cons, ← Int.add_assoc]
    cases hS : S x with
    | true =>
      have e5 : gW S g x = g x := by unfold gW; rw [if_pos hS]
      rw [e5] at g1 e ⊢
      simp [f_law_worth_b0, g2, hS, g3 hS, g1]
      exact e
    | false =>
      have e5 : gW S g x = 0 := by unfold gW; rw [hS]; rfl
      rw [e5] at g1 e ⊢
      simp [f_law_worth_b0, g2, hS, g1] at e ⊢
      exact e
theorem law_worth_ok (hm : ∀ n ∈ NL, mulOk (f n) (gW S g n) = true) : Calc (callN T (n + 1)) "_law_worth" [fmD c f, wtD S g] (.int (wv c f (gW S g))) := by
  intro M
  refine own_callM (fn := f_law_worth) (by kernel_rfl) rfl rfl rfl ⟨[.dct (wd (NL.filter S) g)], ?_⟩
  have h3 := dict_wt (S := S) (g := g) (m := false) (M := M)
  obtain ⟨y4, y5, e⟩ := law_worth_loop (f := f) (C := callN T n) (p0 := some (fmD c f)) (p1 := some (wtD S g)) (at_last (M := M) (o := .dct (wd (NL.filter S) g))) (rowL f) c none none (fun n h => (row_sub f).subset h) (fun n h => hm n ((row_sub f).subset h))
  simp [f_law_worth, h3, fmD] at e ⊢
  rw [e]
  unfold wv
  rw [← sum_row f (gW S g) NL]
  simp
  rfl
end
/-! ### a worth is set -/
structure WI (kvs : List (Key × D)) (S : Str → Bool) (g : Str → Int) : Prop where
  nd : (kvs.map (·.1)).Nodup
  mem : ∀ kv ∈ kvs, ∃ n ∈ NL, S n = true ∧ kv = (Sum.inr n, D.int (g n))
  all : ∀ n ∈ NL, S n = true → (Sum.inr n : Key) ∈ kvs.map (·.1)
theorem wd_WI {S : Str → Bool} {g : Str → Int} : WI (wd (NL.filter S) g) S g := by
  have e : (wd (NL.filter S) g).map (·.1) = (NL.filter S).map Sum.inr := by unfold wd; rw [List.map_map]; rfl
  refine ⟨?_, fun kv hm => ?_, fun n hn h => ?_⟩
  · rw [e]
    exact List.pairwise_map.mpr ((NL_nd.sublist List.filter_sublist).imp fun h z => h (by simpa using z))
  · obtain ⟨n, hn, rfl⟩ := List.mem_map.mp hm
    obtain ⟨h1, h2⟩ := List.mem_filter.mp hn
    exact ⟨n, h1, h2, rfl⟩
  · rw [e]
    exact List.mem_map_of_mem ((mem_S hn).mpr h)
theorem WI.put {kvs : List (Key × D)} {S : Str → Bool} {g : Str → Int} (d : WI kvs S g) {x : Str} (hx : x ∈ NL) (v : Int) : WI (putD (Sum.inr x) (.int v) kvs) (fun n => S n || decide (n = x)) (fun n => if n = x then v else g n) := by
  unfold putD
  by_cases hk : (kvs.any fun kv => decide (kv.1 = Sum.inr x)) = true
  · rw [if_pos hk]
    have hmap : (kvs.map fun kv => if kv.1 = (Sum.inr x : Key) then (kv.1, D.int v) else kv).map (·.1) = kvs.map (·.1) := by
      rw [List.map_map]
      apply List.map_congr_left
      intro kv _
      show (if kv.1 = (Sum.inr x : Key) then (kv.1, D.int v) else kv).1 = kv.1
      split <;> rfl
    refine ⟨by rw [hmap]; exact d.nd, fun kv hm => ?_, fun m hm h0 => ?_⟩
    · obtain ⟨kv0, h1, rfl⟩ := List.mem_map.mp hm
      obtain ⟨m, hm1, hS, rfl⟩ := d.mem kv0 h1
      by_cases e : m = x
      · subst e; exact ⟨m, hm1, by simp, by simp⟩
      · exact ⟨m, hm1, by simp [hS], by rw [if_neg (by simpa using e), if_neg e]⟩
    · rw [hmap]
      by_cases e : m = x
      · subst e
        rw [List.any_eq_true] at hk
        obtain ⟨kv, h1, h2⟩ := hk
        exact List.mem_map.mpr ⟨kv, h1, of_decide_eq_true h2⟩
      · simp [e] at h0
        exact d.all m hm h0
  · rw [if_neg hk]
    have hnk : (Sum.inr x : Key) ∉ kvs.map (·.1) := by
      intro hm
      obtain ⟨kv, h1, h2⟩ := List.mem_map.mp hm
      exact hk (List.any_eq_true.mpr ⟨kv, h1, decide_eq_true h2⟩)
    refine ⟨?_, fun kv hm => ?_, fun m hm h0 => ?_⟩
    · rw [List.map_append, List.nodup_append]
      refine ⟨d.nd, by simp, fun a ha b hb => ?_⟩
      simp at hb
      subst hb
      intro e; subst e; exact hnk ha
    · rcases List.mem_append.mp hm with hm | hm
      · obtain ⟨m, hm1, hS, rfl⟩ := d.mem kv hm
        have e : m ≠ x := fun e => hnk (List.mem_map.mpr ⟨_, hm, by rw [e]⟩)
        exact ⟨m, hm1, by simp [hS], by rw [if_neg e]⟩
      · rw [List.mem_singleton] at hm
        subst hm
        exact ⟨x, hx, by simp, by rw [if_pos rfl]⟩
    · rw [List.map_append, List.mem_append]
      by_cases e : m = x
      · subst e; exact .inr (by simp)
      · simp [e] at h0
        exact .inl (d.all m hm h0)
theorem WI.sorted {kvs : List (Key × D)} {S : Str → Bool} {g : Str → Int} (d : WI kvs S g) : ∃ ks : List Str, strsD (kvs.map fun kv => keyD kv.1) = some ks ∧ sortStr ks = NL.filter S ∧ ks.length < 64 := by
  have key : ∀ l : List (Key × D), (∀ kv ∈ l, ∃ n ∈ NL, S n = true ∧ kv = (Sum.inr n, D.int (g n))) → ∃ ks : List Str, l.map (·.1) = ks.map Sum.inr ∧ strsD (l.map fun kv => keyD kv.1) = some ks ∧ ∀ k ∈ ks, k ∈ NL ∧ S k = true := by
    intro l
    induction l with
    | nil => intro _; exact ⟨[], rfl, rfl, fun _ h => (nomatch h)⟩
    | cons kv r ih =>
      intro hm
      obtain ⟨n, hn, hS, rfl⟩ := hm kv List.mem_cons_self
      obtain ⟨ks, h1, h2, h3⟩ := ih fun kv hk => hm kv (List.mem_cons_of_mem _ hk)
      refine ⟨n :: ks, by rw [List.map_cons, List.map_cons, h1], by rw [List.map_cons]; show (strsD _).map _ = _; rw [h2]; rfl, fun k hk => ?_⟩
      rcases List.mem_cons.mp hk with rfl | hk
      · exact ⟨hn, hS⟩
      · exact h3 k hk
  obtain ⟨ks, h1, h2, h3⟩ := key kvs d.mem
  have nd : ks.Nodup := by
    have h4 := d.nd
    rw [h1] at h4
    exact (List.pairwise_map.mp h4).imp fun {a b} h e => h (by rw [e])
  have e := sort_pick (p := S) nd (fun k hk => (h3 k hk).1) fun n hn hp => by
    have h5 := d.all n hn hp
    rw [h1] at h5
    obtain ⟨m, hm, e⟩ := List.mem_map.mp h5
    cases e
    exact hm
  have e2 : (sortStr ks).filter S = sortStr ks := List.filter_eq_self.mpr fun n hn => (h3 n ((sortStr_perm ks).mem_iff.mp hn)).2
  rw [e2] at e
  refine ⟨ks, h2, e, ?_⟩
  have e3 := congrArg List.length e
  rw [(sortStr_perm ks).length_eq] at e3
  have h4 : (NL.filter S).length ≤ NL.length := List.length_filter_le _ _
  have h5 : NL.length = 12 := rfl
  omega
theorem WI.get {kvs : List (Key × D)} {S : Str → Bool} {g : Str → Int} (d : WI kvs S g) {x : Str} (hx : x ∈ NL) (hS : S x = true) : getK kvs (Sum.inr x) = some (.int (g x)) := by
  cases e : getK kvs (Sum.inr x) with
  | none => exact absurd (d.all x hx hS) (find_key.mp e)
  | some v =>
    unfold getK at e
    cases e2 : kvs.find? (fun kv => decide (kv.1 = Sum.inr x)) with
    | none => rw [e2] at e; cases e
    | some kv =>
      rw [e2] at e
      obtain ⟨m, hm, _, rfl⟩ := d.mem kv (List.mem_of_find?_eq_some e2)
      have h2 := List.find?_some e2
      have h3 : (Sum.inr m : Key) = Sum.inr x := of_decide_eq_true h2
      cases h3
      exact e.symm
theorem law_with_ok {n : Nat} {S : Str → Bool} {g : Str → Int} {x : Str} {v : Int} (hx : x ∈ NL) : Calc (callN T (n + 1)) "_law_with" [wtD S g, .str x, .int v] (wtD (fun n => S n || decide (n = x)) (fun n => if n = x then v else g n)) := by
  intro M
  have d := (wd_WI (S := S) (g := g)).put hx v
  refine own_callM (fn := f_law_with) (by kernel_rfl) rfl rfl wt_pure ⟨[.dct (putD (Sum.inr x) (.int v) (wd (NL.filter S) g))], ?_⟩
  have h3 := dict_wt (S := S) (g := g) (m := true) (M := M)
  have hlen : (wd (NL.filter S) g).length ≤ 1000000 := by
    have : (NL.filter S).length ≤ NL.length := List.length_filter_le _ _
    have h5 : NL.length = 12 := rfl
    unfold wd
    rw [List.length_map]
    omega
  have h4 := si_dct (x := x) (v := .int v) (at_last (M := M) (o := .dct (wd (NL.filter S) g))) hlen
  rw [set_last] at h4
  obtain ⟨ks, k1, k2, k3⟩ := d.sorted
  have hat := at_last (M := M) (o := .dct (putD (Sum.inr x) (.int v) (wd (NL.filter S) g)))
  have h5 := bd_sorted_dct (m := false) hat k1 (by omega)
  rw [k2] at h5
  simp [f_law_with, h3, h4, h5]
  rw [comp_pure (p := fun _ => true) (q := fun d => (match d with | .str n => .tup [.str n, .int (if n = x then v else g n)] | _ => .non)) fun d' hd => ?_]
  · rw [List.filter_eq_self.mpr (fun _ _ => rfl), List.map_map]
    simp [wtD]
    rfl
  · obtain ⟨y, hy, rfl⟩ := List.mem_map.mp hd
    obtain ⟨y1, y2⟩ := List.mem_filter.mp hy
    have h6 := ix_dct (x := y) hat
    rw [d.get y1 y2] at h6
    exact ⟨_, rfl, rfl, fun _ => by simp [f_law_with_c0, h6]⟩
/-! ### the same -/
mutual
/-- numbers, texts, tuples and lists of them, so deep at most -/
def D.dat : Nat → D → Bool
  | _, .int _ => true
  | _, .str _ => true
  | _, .bl _ => true
  | _, .non => true
  | k + 1, .tup xs => D.dats k xs
  | k + 1, .lst xs => D.dats k xs
  | _, _ => false
def D.dats : Nat → List D → Bool
  | _, [] => true
  | k, x :: xs => D.dat k x && D.dats k xs
end
theorem dats_all {k : Nat} : ∀ {xs : List D}, D.dats k xs = true → ∀ d ∈ xs, D.dat k d = true
  | [], _, d, h => (nomatch h)
  | x :: r, h, d, hd => by
    unfold D.dats at h
    rw [Bool.and_eq_true] at h
    rcases List.mem_cons.mp hd with rfl | hd
    · exact h.1
    · exact dats_all h.2 d hd
theorem zip_same : ∀ {xs : List D} {d : D}, d ∈ zipD xs xs → ∃ x ∈ xs, d = .pr [x, x]
  | [], d, h => by simp [zipD] at h
  | x :: r, d, h => by
    simp [zipD] at h
    rcases h with rfl | h
    · exact ⟨x, List.mem_cons_self, rfl⟩
    · obtain ⟨y, hy, e⟩ := zip_same h
      exact ⟨y, List.mem_cons_of_mem _ hy, e⟩
theorem eq_nil {M : Sto} : eqD M (.lst []) (.lst []) = some true := rfl
theorem same_loop {C : Calls} {M : Sto} {xs : List D} {env : En} (h : ∀ d ∈ xs, C "_law_same" [d, d] M = .ok (.bl true) M) (he : env.length = 4) :
    compGo (.t [2, 3]) (fun env M => evC C (.som f_law_same_k0) env M) (fun env M => evE C f_law_same_c0 env M) env (zipD xs xs) M = .ok [] M := by
  rw [comp_pure (p := fun _ => false) (q := fun d => d) fun d hd => ?_]
  · rw [List.filter_eq_nil_iff.mpr (fun _ _ => by decide)]; rfl
  · obtain ⟨x, hx, rfl⟩ := zip_same hd
    match env, he with
    | [e0, e1, e2, e3], _ =>
      refine ⟨_, rfl, ?_, fun z => by cases z⟩
      simp [f_law_same_k0, h x hx]
theorem law_same_ok : ∀ {k n : Nat} {d : D}, D.dat k d = true → Calc (callN T (n + k + 1)) "_law_same" [d, d] (.bl true)
  | k, n, .int i, _ => own_call (fn := f_law_same) (by kernel_rfl) rfl rfl rfl fun M => ⟨[], by rw [List.append_nil]; simp [f_law_same]⟩
  | k, n, .str x, _ => own_call (fn := f_law_same) (by kernel_rfl) rfl rfl rfl fun M => ⟨[], by rw [List.append_nil]; simp [f_law_same]⟩
  | 0, n, .tup xs, h => by cases h
  | 0, n, .lst xs, h => by cases h
  | k + 1, n, .tup xs, h => by
    refine own_call (fn := f_law_same) (by kernel_rfl) rfl rfl rfl fun M => ⟨[], ?_⟩
    rw [List.append_nil]
    have e := same_loop (C := callN T (n + k + 1)) (M := M) (xs := xs) (env := [some (.tup xs), some (.tup xs), none, none]) (fun d hd => law_same_ok (k := k) (n := n) (dats_all h d hd) M) rfl
    simp [f_law_same] at e ⊢
    rw [show n + (k + 1) = n + k + 1 from rfl, e]
    simp [eq_nil]
  | k + 1, n, .lst xs, h => by
    refine own_call (fn := f_law_same) (by kernel_rfl) rfl rfl rfl fun M => ⟨[], ?_⟩
    rw [List.append_nil]
    have e := same_loop (C := callN T (n + k + 1)) (M := M) (xs := xs) (env := [some (.lst xs), some (.lst xs), none, none]) (fun d hd => law_same_ok (k := k) (n := n) (dats_all h d hd) M) rfl
    simp [f_law_same] at e ⊢
    rw [show n + (k + 1) = n + k + 1 from rfl, e]
    simp [eq_nil]
  | k, n, .non, _ => own_call (fn := f_law_same) (by kernel_rfl) rfl rfl rfl fun M => ⟨[], by rw [List.append_nil]; simp [f_law_same]⟩
  | k, n, .bl b, _ => own_call (fn := f_law_same) (by kernel_rfl) rfl rfl rfl fun M => ⟨[], by rw [List.append_nil]; cases b <;> simp [f_law_same]⟩
  | 0, n, .scr _, h => by cases h
  | 0, n, .loc _, h => by cases h
  | 0, n, .pr _, h => by cases h
  | _ + 1, n, .scr _, h => by cases h
  | _ + 1, n, .loc _, h => by cases h
  | _ + 1, n, .pr _, h => by cases h
theorem prs_dat {l : List Str} {g : Str → Int} {k : Nat} : D.dats (k + 1) (prsD l g) = true := by
  induction l with
  | nil => rfl
  | cons x r ih => show (D.dat (k + 1) (.tup [.str x, .int (g x)]) && D.dats (k + 1) (prsD r g)) = true; rw [ih]; cases k <;> rfl
theorem fm_dat {c : Int} {f : Str → Int} {k : Nat} : D.dat (k + 3) (fmD c f) = true := by
  show (D.dat (k + 2) (.int c) && (D.dats (k + 1) (prsD (rowL f) f) && true)) = true
  rw [prs_dat]; rfl
end K06T
end Z


/-! K03B: the draws. -/
namespace Z
namespace K06T
open PySem L2
variable {Rs : Sto}
def dealM (R : Sto) (cells : List Int) (b : Int) : Sto := .lst (cells.map .int) :: .lst [.loc 0, .int b] :: R
structure Deal (Rs : Sto) (M : Sto) : Prop where
  is : ∃ cells b, M = dealM Rs cells b ∧ (∀ c ∈ cells, 0 ≤ c) ∧ 0 ≤ b ∧ b < 2147483647 ∧ cells.length ≤ 48
section
variable {C : Calls} {cells : List Int} {b bound : Int} {x2 : Option D}
theorem d0 : (dealM Rs cells b)[0]? = some (.lst (cells.map .int)) := rfl
theorem d1 : (dealM Rs cells b)[1]? = some (.lst [.loc 0, .int b]) := rfl
theorem i10 : idxD (dealM Rs cells b) (.loc 1) (.int 0) = some (.loc 0) := by rw [ix_loc d1]; simp
theorem i11 : idxD (dealM Rs cells b) (.loc 1) (.int 1) = some (.int b) := by rw [ix_loc d1]; simp
theorem fits_ints {k : Nat} : ∀ {l : List Int}, D.fits k (l.map .int) = true
  | [] => by rw [List.map_nil, D.fits]
  | x :: r => by
    rw [List.map_cons, D.fits, fits_ints]
    cases k <;> rfl
theorem eq_empty : eqD (dealM Rs cells b) (.loc 0) (.lst []) = some cells.isEmpty := by
  have h1 : D.seen (dealM Rs cells b) (.loc 0) = .lst (cells.map .int) := rfl
  unfold eqD
  rw [if_neg (by decide), h1]
  have h2 : (D.fit 64 (.lst (cells.map .int)) && D.fit 64 (D.seen (dealM Rs cells b) (.lst []))) = true := by
    have e1 : D.fit 64 (.lst (cells.map .int)) = true := by show D.fits 63 _ = true; exact fits_ints
    rw [e1]; rfl
  dsimp only
  rw [if_pos h2]
  cases cells <;> rfl
theorem w_empty (h : cells = []) : evE C f_law_any_w0 [some (.loc 1), some (.int bound), x2] (dealM Rs cells b) = .ok (.bl false) (dealM Rs cells b) := by
  subst h
  simp [f_law_any_w0, i10, eq_empty]
theorem w_last {pre : List Int} {c : Int} : evE C f_law_any_w0 [some (.loc 1), some (.int bound), x2] (dealM Rs (pre ++ [c]) b) = .ok (.bl (decide (c = 0))) (dealM Rs (pre ++ [c]) b) := by
  have h : idxD (dealM Rs (pre ++ [c]) b) (.loc 0) (.int (-1)) = some (.int c) := by
    rw [ix_loc d0, List.map_append]
    exact it_last
  have e : (pre ++ [c]).isEmpty = false := by simp
  simp [f_law_any_w0, i10, eq_empty, h, e]
theorem b_pop {pre : List Int} {c : Int} : evSs C f_law_any_b0 [some (.loc 1), some (.int bound), x2] (dealM Rs (pre ++ [c]) b) = .ok (.nx [some (.loc 1), some (.int bound), x2]) (dealM Rs pre b) := by
  have h0 : (dealM Rs (pre ++ [c]) b)[0]? = some (.lst (pre.map D.int ++ [.int c])) := by rw [d0, List.map_append]; rfl
  have h1 := md_pop h0
  have h2 : (dealM Rs (pre ++ [c]) b).set 0 (.lst (pre.map .int)) = dealM Rs pre b := rfl
  rw [h2] at h1
  simp [f_law_any_b0, i10, kd_pop h0, h1]
theorem while_ok : ∀ (k : Nat) (cells : List Int), cells.length = k → ∃ cells', whlN (fun env M => evE C f_law_any_w0 env M) (fun env M => evSs C f_law_any_b0 env M) (k + 1) [some (.loc 1), some (.int bound), x2] (dealM Rs cells b) = .ok (.nx [some (.loc 1), some (.int bound), x2]) (dealM Rs cells' b) ∧ (∀ c ∈ cells', c ∈ cells) ∧ cells'.length ≤ cells.length
  | 0, cells, h => by
    have h := List.eq_nil_of_length_eq_zero h
    refine ⟨cells, ?_, fun _ h => h, Nat.le_refl _⟩
    unfold whlN
    dsimp only
    rw [w_empty h]
    rfl
  | k + 1, cells, h => by
    rcases List.eq_nil_or_concat cells with e | ⟨pre, c, e⟩
    · rw [e] at h; cases h
    · rw [List.concat_eq_append] at e
      subst e
      rw [List.length_append] at h
      have hk : pre.length = k := by simpa using h
      by_cases hc : c = 0
      · obtain ⟨cells', e1, e2, e3⟩ := while_ok k pre hk
        refine ⟨cells', ?_, fun c hc => List.mem_append_left _ (e2 c hc), by rw [List.length_append]; omega⟩
        unfold whlN
        rw [w_last, decide_eq_true hc]
        dsimp only [out_ok]
        rw [b_pop]
        exact e1
      · refine ⟨pre ++ [c], ?_, fun _ h => h, Nat.le_refl _⟩
        unfold whlN
        rw [w_last, decide_eq_false hc]
        rfl
end
theorem law_any_ok {n : Nat} {M : Sto} {bound : Int} (d : Deal Rs M) (h0 : 0 < bound) (hd : divOk bound = true) : ∃ r M', callN T (n + 1) "_law_any" [.loc 1, .int bound] M = .ok (.int r) M' ∧ Deal Rs M' ∧ 0 ≤ r ∧ r < bound := by
  obtain ⟨cells, b, rfl, hc, hb0, hb1, hl⟩ := d.is
  obtain ⟨cells', e1, e2, e3⟩ := while_ok (C := callN T n) (b := b) (bound := bound) (x2 := none) cells.length cells rfl
  have e4 := whl_go (n := cells.length + 1) (c := fun env M => evE (callN T n) f_law_any_w0 env M) (b := fun env M => evSs (callN T n) f_law_any_b0 env M) (env := [some (.loc 1), some (.int bound), none]) (M := dealM Rs cells b) (by rw [e1]; exact fun h => by cases h)
  rw [e1] at e4
  rcases List.eq_nil_or_concat cells' with e | ⟨pre, c, e⟩
  · subst e
    have g1 : mulOk b 40693 = true := mul1 (b := 31) (c := 17) (by omega) (by decide) (by decide) (by decide)
    have g2 := bn_mul (M := dealM Rs [] b) g1
    have g3 := bn_mod (M := dealM Rs [] b) (i := b * 40693 + 71) (j := 2147483647) (by decide)
    have g4 := si_lst (M := dealM Rs [] b) (v := .int ((b * 40693 + 71) % 2147483647)) (i := 1) d1 (by simp)
    have g5 : (dealM Rs [] b).set 1 (.lst ([D.loc 0, .int b].set (Int.toNat 1) (.int ((b * 40693 + 71) % 2147483647)))) = dealM Rs [] ((b * 40693 + 71) % 2147483647) := rfl
    rw [g5] at g4
    have g6 := bn_div (M := dealM Rs [] ((b * 40693 + 71) % 2147483647)) (i := (b * 40693 + 71) % 2147483647) (j := 64) (by decide)
    have g7 := bn_mod (M := dealM Rs [] ((b * 40693 + 71) % 2147483647)) (i := (b * 40693 + 71) % 2147483647 / 64) h0
    refine ⟨(b * 40693 + 71) % 2147483647 / 64 % bound, dealM Rs [] ((b * 40693 + 71) % 2147483647), ?_, ⟨[], _, rfl, fun _ h => (nomatch h), by omega, by omega, by decide⟩, Int.emod_nonneg _ (by omega), Int.emod_lt_of_pos _ h0⟩
    refine free_call (fn := f_law_any) (by kernel_rfl) rfl rfl ?_
    simp [f_law_any] at e4 ⊢
    rw [e4]
    simp [i10, i11, eq_empty, g2, g3, g4, g6, g7]
  · rw [List.concat_eq_append] at e
    subst e
    have hcn : 0 ≤ c := hc c (e2 c (by simp))
    have h1 : (dealM Rs (pre ++ [c]) b)[0]? = some (.lst (pre.map D.int ++ [.int c])) := by rw [d0, List.map_append]; rfl
    have h2 := md_pop h1
    have h3 : (dealM Rs (pre ++ [c]) b).set 0 (.lst (pre.map .int)) = dealM Rs pre b := rfl
    rw [h3] at h2
    have hlen : pre.length ≤ 47 := by rw [List.length_append] at e3; simp at e3; omega
    have h4 := md_append (d := .int (c / bound)) (d0 (Rs := Rs) (cells := pre) (b := b)) (by rw [List.length_map]; omega)
    have h5 : (dealM Rs pre b).set 0 (.lst (pre.map .int ++ [.int (c / bound)])) = dealM Rs (pre ++ [c / bound]) b := by
      show MO.lst (pre.map .int ++ [.int (c / bound)]) :: _ = MO.lst ((pre ++ [c / bound]).map .int) :: _
      rw [List.map_append]; rfl
    rw [h5] at h4
    have h6 := bn_div (M := dealM Rs pre b) (i := c) hd
    have h7 := bn_mod (M := dealM Rs (pre ++ [c / bound]) b) (i := c) h0
    have h8 : (pre ++ [c]).isEmpty = false := by simp
    refine ⟨c % bound, dealM Rs (pre ++ [c / bound]) b, ?_, ⟨pre ++ [c / bound], b, rfl, fun y hy => ?_, hb0, hb1, by rw [List.length_append]; simp; omega⟩, Int.emod_nonneg _ (by omega), Int.emod_lt_of_pos _ h0⟩
    · refine free_call (fn := f_law_any) (by kernel_rfl) rfl rfl ?_
      simp [f_law_any] at e4 ⊢
      rw [e4]
      simp [i10, eq_empty, h8, kd_pop h1, h2, kd_append (d0 (Rs := Rs)), h4, h6, h7]
    · rcases List.mem_append.mp hy with hy | hy
      · exact hc y (e2 y (List.mem_append_left _ hy))
      · rw [List.mem_singleton] at hy
        rw [hy]
        exact Int.ediv_nonneg hcn (by omega)
theorem bn_pow {i j : Int} {M : Sto} (h : powOk i j = true) : binD .pow (.int i) (.int j) M = .ok (.int (i ^ j.toNat)) M := by show (if powOk i j then _ else _) = _; rw [if_pos h]
theorem blend_loop {C : Calls} {M : Sto} {p0 p1 p2 : Option D} : ∀ (cells : List Int) (b : Int) (y : Option D), 0 ≤ b → b < 2147483647 → ∃ b' y', forGo (.n 4) (fun env M => evSs C f_law_draw_b0 env M) (cells.map .int) [p0, p1, p2, some (.int b), y] M = .ok (.nx [p0, p1, p2, some (.int b'), y']) M ∧ 0 ≤ b' ∧ b' < 2147483647
  | [], b, y, h0, h1 => ⟨b, y, rfl, h0, h1⟩
  | c :: r, b, y, h0, h1 => by
    obtain ⟨b', y', e, g0, g1⟩ := blend_loop (C := C) (M := M) (p0 := p0) (p1 := p1) (p2 := p2) r ((b * 48271 + c % 2147483549 + 11) % 2147483647) (some (.int c)) (by omega) (by omega)
    refine ⟨b', y', ?_, g0, g1⟩
    have k1 := bn_mul (M := M) (mul1 (i := b) (b := 31) (a := 48271) (c := 17) (by omega) (by decide) (by decide) (by decide))
    have k2 := bn_mod (M := M) (i := c) (j := 2147483549) (by decide)
    have k3 := bn_mod (M := M) (i := b * 48271 + c % 2147483549 + 11) (j := 2147483647) (by decide)
    rw [List.map_cons]
    unfold forGo
    simp [f_law_draw_b0, k1, k2, k3]
    exact e
theorem law_draw_ok {n : Nat} {ns : List Int} : ∃ M', callN T (n + 1) "_law_draw" [.scr (ns.map .int), .int 6] [] = .ok (.loc 1) M' ∧ Deal [] M' := by
  have hc : cut (ns.map D.int) none (some 48) = (ns.take 48).map D.int := by rw [List.map_take]; exact cut_to (k := 48)
  obtain ⟨cs, hcs⟩ : ∃ cs, cs = (ns.take 48).map fun i => if i < 0 then -i else i := ⟨_, rfl⟩
  have hl : cs.length ≤ 48 := by rw [hcs, List.length_map, List.length_take]; omega
  obtain ⟨b', y', e, g0, g1⟩ := blend_loop (C := callN T n) (M := []) (p0 := some (.scr (ns.map .int))) (p1 := some (.int 6)) (p2 := some (.lst (cs.map .int))) cs (7919 + 104729 * 6) none (by decide) (by decide)
  have k1 := bn_mul (M := []) (show mulOk 104729 6 = true by decide +kernel)
  have k2 : binD .pow (.int 10) (.int 18) [] = .ok (.int 1000000000000000000) [] := bn_pow (by decide +kernel)
  have c1 : ∀ env, compGo (.n 4) (fun env M => Res.ok true M) (fun env M => evE (callN T n) f_law_draw_c0 env M) [some (.scr (ns.map .int)), some (.int 6), none, none, env] ((ns.take 48).map D.int) [] = .ok (cs.map .int) [] := by
    intro env
    rw [comp_pure (p := fun _ => true) (q := fun d => (match d with | .int i => .int (if i < 0 then -i else i) | _ => .non)) fun d hd => ?_]
    · rw [List.filter_eq_self.mpr (fun _ _ => rfl), List.map_map, hcs, List.map_map]; rfl
    · obtain ⟨c, _, rfl⟩ := List.mem_map.mp hd
      exact ⟨_, rfl, rfl, fun _ => by simp [f_law_draw_c0]⟩
  have c2 : ∀ y, compGo (.n 4) (fun env M => (evE (callN T n) f_law_draw_k0 env M).bind fun x M1 => ofO (asB x) M1) (fun env M => evE (callN T n) f_law_draw_c1 env M) [some (.scr (ns.map .int)), some (.int 6), some (.lst (cs.map .int)), some (.int b'), y] (cs.map .int) [] = .ok ((cs.filter fun c => decide (1000000000000000000 ≤ c)).map .int) [] := by
    intro y
    rw [comp_pure (p := fun d => (match d with | .int c => decide (1000000000000000000 ≤ c) | _ => false)) (q := fun d => d) fun d hd => ?_]
    · rw [List.map_id', List.filter_map]; rfl
    · obtain ⟨c, _, rfl⟩ := List.mem_map.mp hd
      exact ⟨_, rfl, by simp [f_law_draw_k0, k2], fun _ => by simp [f_law_draw_c1]⟩
  clear hcs
  refine ⟨dealM [] (cs.filter fun c => decide (1000000000000000000 ≤ c)).reverse b', ?_, ⟨_, b', rfl, fun c h => ?_, g0, g1, ?_⟩⟩
  · refine free_call (fn := f_law_draw) (by kernel_rfl) rfl rfl ?_
    simp only [List.map_take] at c1
    simp [f_law_draw, slcD, hc]
    rw [c1]
    simp [k1] at e ⊢
    rw [e]
    simp
    rw [c2]
    simp [dealM]
  · rw [List.mem_reverse] at h
    have := of_decide_eq_true (List.mem_filter.mp h).2
    omega
  · rw [List.length_reverse]
    exact Nat.le_trans (List.length_filter_le _ _) hl
theorem law_of_ok {n : Nat} {M : Sto} {xs : List D} (d : Deal Rs M) (h0 : 0 < xs.length) (h1 : xs.length ≤ 1000) : ∃ x ∈ xs, ∃ M', callN T (n + 2) "_law_of" [.loc 1, .lst xs] M = .ok x M' ∧ Deal Rs M' := by
  have hd : divOk (xs.length : Int) = true := by
    refine decide_eq_true ⟨by omega, ?_⟩
    have : (xs.length : Int).natAbs = xs.length := by simp
    rw [this]
    have h2 : xs.length.log2 ≤ xs.length := Nat.log2_le_self _
    omega
  obtain ⟨r, M', e1, e2, e3, e4⟩ := law_any_ok (n := n) (bound := xs.length) d (by omega) hd
  have hr : r.toNat < xs.length := by omega
  have hi : itemAt xs r = some xs[r.toNat] := by
    show (ixN xs.length r).bind _ = _
    unfold ixN
    rw [if_pos e3, if_pos (by omega)]
    exact List.getElem?_eq_getElem hr
  refine ⟨xs[r.toNat], List.getElem_mem hr, M', ?_, e2⟩
  refine free_call (fn := f_law_of) (by kernel_rfl) rfl rfl ?_
  simp [f_law_of, e1, hi]
def NW : List Str := ["x", "y", "z", "a", "a#1", "a#1.2", "r0", "x_2", "n0000000000000000000000000000000000000000000000000000000000#"]
theorem NW_NL : ∀ x ∈ NW, x ∈ NL := by decide +kernel
theorem NW_p1 : ("p1" : Str) ∉ NW := by decide +kernel
theorem NW_q1 : ("q1" : Str) ∉ NW := by decide +kernel
theorem law_unknown_ok {n : Nat} {M : Sto} (d : Deal Rs M) : ∃ x ∈ NW, ∃ M', callN T (n + 3) "_law_unknown" [.loc 1] M = .ok (.str x) M' ∧ Deal Rs M' := by
  obtain ⟨x, hx, M', e1, e2⟩ := law_of_ok (n := n) (xs := NW.map .str) d (by decide) (by decide)
  obtain ⟨z, hz, rfl⟩ := List.mem_map.mp hx
  refine ⟨z, hz, M', ?_, e2⟩
  refine free_call (fn := f_law_unknown) (by kernel_rfl) rfl rfl ?_
  have k1 : binD .mul (.str "0") (.int 58) M = .ok (.str "0000000000000000000000000000000000000000000000000000000000") M := by kernel_rfl
  have k2 : binD .add (.str "n") (.str "0000000000000000000000000000000000000000000000000000000000") M = .ok (.str "n0000000000000000000000000000000000000000000000000000000000") M := by kernel_rfl
  have k3 : binD .add (.str "n0000000000000000000000000000000000000000000000000000000000") (.str "#") M = .ok (.str "n0000000000000000000000000000000000000000000000000000000000#") M := by kernel_rfl
  simp [NW] at e1
  simp [f_law_unknown, k1, k2, k3, e1]
theorem law_number_ok {n : Nat} {M : Sto} (d : Deal Rs M) : ∃ v M', callN T (n + 3) "_law_number" [.loc 1] M = .ok (.int v) M' ∧ v.natAbs < 2 ^ 100 ∧ Deal Rs M' := by
  obtain ⟨r1, M1, a1, a2, a3, a4⟩ := law_any_ok (n := n + 1) (bound := 99) d (by decide) (by decide +kernel)
  obtain ⟨r2, M2, b1, b2, b3, b4⟩ := law_any_ok (n := n + 1) (bound := 1000000000000000000) a2 (by decide) (by decide +kernel)
  obtain ⟨x, hx, M', e1, e2⟩ := law_of_ok (n := n) (xs := [.int 0, .int 1, .int 2, .int 3, .int (-1), .int (-2), .int (r1 - 50), .int r2, .int (-1000000000000000000000000000000)]) b2 (by simp) (by simp)
  have k2 : ∀ M, binD .pow (.int 10) (.int 18) M = .ok (.int 1000000000000000000) M := fun M => bn_pow (by decide +kernel)
  have k3 : ∀ M, binD .pow (.int 10) (.int 30) M = .ok (.int 1000000000000000000000000000000) M := fun M => bn_pow (by decide +kernel)
  have fin : ∀ v : Int, v.natAbs < 2 ^ 100 → x = .int v → ∃ v M', callN T (n + 3) "_law_number" [.loc 1] M = .ok (.int v) M' ∧ v.natAbs < 2 ^ 100 ∧ Deal Rs M' := by
    rintro v hv rfl
    refine ⟨v, M', ?_, hv, e2⟩
    refine free_call (fn := f_law_number) (by kernel_rfl) rfl rfl ?_
    simp [f_law_number, a1, k2, b1, k3, e1]
  simp only [List.mem_cons, List.not_mem_nil, or_false] at hx
  rcases hx with h | h | h | h | h | h | h | h | h <;> exact fin _ (by omega) h
inductive F2 (R : D → D → Prop) : List D → List D → Prop
  | nil : F2 R [] []
  | cons {a b : D} {l m : List D} : R a b → F2 R l m → F2 R (a :: l) (b :: m)
/-- a comprehension that draws -/
theorem comp_draw {t : Tg} {el : En → Sto → Res D} {env : En} {R : D → D → Prop} : ∀ {items : List D} {M : Sto}, Deal Rs M → (∀ d ∈ items, ∀ M, Deal Rs M → ∃ e y M', asgD t d env = some e ∧ el e M = .ok y M' ∧ Deal Rs M' ∧ R d y) →
    ∃ ys M', compGo t (fun _ M => .ok true M) el env items M = .ok ys M' ∧ Deal Rs M' ∧ F2 R items ys
  | [], M, dl, _ => ⟨[], M, rfl, dl, .nil⟩
  | d :: r, M, dl, h => by
    obtain ⟨e, y, M1, h1, h2, h3, h4⟩ := h d List.mem_cons_self M dl
    obtain ⟨ys, M', h5, h6, h7⟩ := comp_draw (t := t) (el := el) (env := env) (R := R) (items := r) h3 fun d hd => h d (List.mem_cons_of_mem _ hd)
    refine ⟨y :: ys, M', ?_, h6, .cons h4 h7⟩
    unfold compGo
    rw [h1]
    show ((el e M).calm.bind fun y M2 => (compGo t (fun _ M => .ok true M) el env r M2).bind fun ys M3 => Res.ok (y :: ys) M3) = _
    rw [h2]
    show (compGo t (fun _ M => .ok true M) el env r M1).bind (fun ys M3 => Res.ok (y :: ys) M3) = _
    rw [h5]; rfl
theorem names_of : ∀ {items ys : List D}, F2 (fun _ y => ∃ x ∈ NW, y = D.str x) items ys → ∃ bs : List Str, ys = bs.map .str ∧ (∀ b ∈ bs, b ∈ NW) ∧ bs.length = items.length
  | _, _, .nil => ⟨[], rfl, fun _ h => (nomatch h), rfl⟩
  | _, _, .cons ⟨x, hx, e⟩ r => by
    obtain ⟨bs, h1, h2, h3⟩ := names_of r
    refine ⟨x :: bs, by rw [e, h1]; rfl, fun b hb => ?_, by simp [h3]⟩
    rcases List.mem_cons.mp hb with rfl | hb
    · exact hx
    · exact h2 b hb
theorem pairs_of' : ∀ {l : List Str} {ys : List D}, l.Nodup → F2 (fun d y => ∃ x v, d = D.str x ∧ y = D.tup [.str x, .int v] ∧ v.natAbs < 2 ^ 100) (l.map .str) ys → ∃ g : Str → Int, ys = prsD l g ∧ ∀ n ∈ l, (g n).natAbs < 2 ^ 100
  | [], ys, _, h => by cases h; exact ⟨fun _ => 0, rfl, fun _ h => (nomatch h)⟩
  | m :: r, ys, nd, h => by
    rw [List.map_cons] at h
    obtain ⟨n1, n2⟩ := List.nodup_cons.mp nd
    cases h with
    | cons q t =>
      obtain ⟨x, v, e1, e2, e3⟩ := q
      cases e1
      obtain ⟨g, h1, h2⟩ := pairs_of' n2 t
      refine ⟨fun n => if n = m then v else g n, ?_, fun n hn => ?_⟩
      · rw [e2, h1]
        unfold prsD
        rw [List.map_cons]
        simp
        intro a ha
        intro e
        subst e
        exact absurd ha n1
      · by_cases e : n = m
        · simp [e, e3]
        · simp [e]
          rcases List.mem_cons.mp hn with h | h
          · exact absurd h e
          · exact h2 n h
theorem names_sorted {bs : List Str} (h : ∀ b ∈ bs, b ∈ NW) : sortStr (dedupStr bs) = NL.filter fun n => decide (n ∈ bs) := by
  have e := sort_pick (ks := dedupStr bs) (p := fun n => decide (n ∈ bs)) (nodup_dedup bs) (fun k hk => NW_NL k (h k (mem_dedup.mp hk))) fun n _ hp => mem_dedup.mpr (of_decide_eq_true hp)
  have e2 : (sortStr (dedupStr bs)).filter (fun n => decide (n ∈ bs)) = sortStr (dedupStr bs) := List.filter_eq_self.mpr fun n hn => decide_eq_true (mem_dedup.mp ((sortStr_perm _).mem_iff.mp hn))
  rw [e2] at e
  exact e
/-- names drawn -/
theorem draw_names {n : Nat} {M : Sto} {bound : Int} {k : Nat} {env : En} (d : Deal Rs M) (h0 : 0 < bound) (h1 : bound ≤ 60) {el : E} (hel : el = .call "_law_unknown" (.cons (.var 0) .nil)) (he : ∀ x : D, (env.set k (some x))[0]? = some (some (.loc 1))) :
    ∃ (r : Int) (M1 : Sto) (bs : List Str) (M2 : Sto), callN T (n + 3) "_law_any" [.loc 1, .int bound] M = .ok (.int r) M1 ∧ fitLen r.natAbs = true ∧ compGo (.n k) (fun _ M => .ok true M) (fun env M => evE (callN T (n + 3)) el env M) env (rngD 0 r.toNat) M1 = .ok (bs.map .str) M2 ∧ Deal Rs M2 ∧ (∀ b ∈ bs, b ∈ NW) ∧ bs.length < 63 := by
  have hd : divOk bound = true := by
    refine decide_eq_true ⟨h0, ?_⟩
    have h2 : bound.natAbs.log2 ≤ bound.natAbs := Nat.log2_le_self _
    omega
  obtain ⟨r, M1, e1, e2, e3, e4⟩ := law_any_ok (n := n + 2) (bound := bound) d h0 hd
  obtain ⟨ys, M2, c1, c2, c3⟩ := comp_draw (t := .n k) (el := fun env M => evE (callN T (n + 3)) el env M) (env := env) (R := fun _ y => ∃ x ∈ NW, y = D.str x) (items := rngD 0 r.toNat) e2 (by
    intro x _ M dl
    obtain ⟨z, hz, M', u1, u2⟩ := law_unknown_ok (n := n) dl
    refine ⟨env.set k (some x), .str z, M', rfl, ?_, u2, z, hz, rfl⟩
    subst hel
    simp [he x, u1])
  obtain ⟨bs, b1, b2, b3⟩ := names_of c3
  subst b1
  rw [rng_len] at b3
  exact ⟨r, M1, bs, M2, e1, decide_eq_true (by omega), c1, c2, b2, by omega⟩
/-- pairs drawn -/
theorem draw_pairs {n : Nat} {M : Sto} {k : Nat} {env : En} {l : List Str} (d : Deal Rs M) (nd : l.Nodup) {el : E} (hel : el = .tup (.cons (.var k) (.cons (.call "_law_number" (.cons (.var 0) .nil)) .nil))) (he : ∀ x : D, (env.set k (some x))[0]? = some (some (.loc 1)) ∧ (env.set k (some x))[k]? = some (some x)) :
    ∃ (g : Str → Int) (M2 : Sto), compGo (.n k) (fun _ M => .ok true M) (fun env M => evE (callN T (n + 3)) el env M) env (l.map .str) M = .ok (prsD l g) M2 ∧ Deal Rs M2 ∧ ∀ m ∈ l, (g m).natAbs < 2 ^ 100 := by
  obtain ⟨ys, M2, c1, c2, c3⟩ := comp_draw (t := .n k) (el := fun env M => evE (callN T (n + 3)) el env M) (env := env) (R := fun d y => ∃ x v, d = D.str x ∧ y = D.tup [.str x, .int v] ∧ v.natAbs < 2 ^ 100) (items := l.map .str) d (by
    intro x hx M dl
    obtain ⟨z, hz, rfl⟩ := List.mem_map.mp hx
    obtain ⟨v, M', u1, u2, u3⟩ := law_number_ok (n := n) dl
    refine ⟨env.set k (some (.str z)), .tup [.str z, .int v], M', rfl, ?_, u3, z, v, rfl, rfl, u2⟩
    subst hel
    simp [(he (.str z)).1, (he (.str z)).2, u1])
  obtain ⟨g, g1, g2⟩ := pairs_of' nd c3
  subst g1
  exact ⟨g, M2, c1, c2, g2⟩
/-- a form drawn: small, of the law's own names -/
structure FD (c : Int) (f : Str → Int) : Prop where
  sm : Sm 100 c f
  own : ∀ n ∈ NL, n ∉ NW → f n = 0
theorem law_form_ok {n : Nat} {M : Sto} (d : Deal Rs M) : ∃ c f M', callN T (n + 4) "_law_form" [.loc 1] M = .ok (fmD c f) M' ∧ FD c f ∧ Deal Rs M' := by
  obtain ⟨r, M1, bs, M2, a1, a2, a3, a4, a5, a6⟩ := draw_names (n := n) (bound := 4) (k := 4) (env := [some (.loc 1), none, none, none, none, none]) d (by decide) (by decide) (el := f_law_form_c0) rfl (fun x => rfl)
  have s1 := bd_sset (m := false) (M := M2) (Nat.lt_trans a6 (by decide))
  rw [names_sorted a5] at s1
  obtain ⟨g, M3, b1, b2, b3⟩ := draw_pairs (n := n) (k := 3) (env := [some (.loc 1), some (.lst ((NL.filter fun n => decide (n ∈ bs)).map .str)), none, none, none, none]) (l := NL.filter fun n => decide (n ∈ bs)) a4 (NL_nd.sublist List.filter_sublist) (el := f_law_form_c1) rfl (fun x => ⟨rfl, rfl⟩)
  obtain ⟨c, M4, c1, c2, c3⟩ := law_number_ok (n := n) b2
  have hf : ∀ m ∈ NL, (if m ∈ bs then g m else 0).natAbs < 2 ^ 100 := fun m hm => by
    by_cases h : m ∈ bs
    · rw [if_pos h]; exact b3 m (List.mem_filter.mpr ⟨hm, decide_eq_true h⟩)
    · rw [if_neg h]; decide
  refine ⟨c, fun m => if m ∈ bs then g m else 0, M4, ?_, ⟨⟨c2, hf⟩, fun m _ hm => if_neg fun h => hm (a5 m h)⟩, c3⟩
  refine free_call (fn := f_law_form) (by kernel_rfl) rfl rfl ?_
  simp [f_law_form, a1, a2]
  rw [a3]
  simp [s1]
  rw [b1]
  simp [c1]
  rw [comp_pure (p := fun d => (match d with | .tup [_, .int i] => i != 0 | _ => false)) (q := fun d => d) fun d hd => ?_]
  · have e : ((prsD (NL.filter fun n => decide (n ∈ bs)) g).filter fun d => (match d with | .tup [_, .int i] => i != 0 | _ => false)).map (fun d => d) = prsD (rowL fun m => if m ∈ bs then g m else 0) (fun m => if m ∈ bs then g m else 0) := by
      rw [List.map_id']
      unfold prsD
      rw [List.filter_map, List.filter_filter]
      have e4 : (NL.filter fun a => ((fun d => (match d with | .tup [_, .int i] => i != 0 | _ => false)) ∘ fun n => D.tup [.str n, .int (g n)]) a && decide (a ∈ bs)) = rowL fun m => if m ∈ bs then g m else 0 := by
        unfold rowL
        apply List.filter_congr
        intro m _
        show ((g m != 0) && decide (m ∈ bs)) = ((if m ∈ bs then g m else 0) != 0)
        by_cases h : m ∈ bs <;> simp [h]
      rw [e4]
      apply List.map_congr_left
      intro m hm
      have hm := (List.mem_filter.mp hm).2
      by_cases h : m ∈ bs
      · simp [h]
      · simp [h] at hm
    rw [e]
    simp [fmD]
  · obtain ⟨x, _, rfl⟩ := List.mem_map.mp hd
    refine ⟨_, rfl, ?_, fun _ => by simp [f_law_form_c2]⟩
    simp [f_law_form_k0]
    by_cases h0 : g x = 0 <;> simp [h0]
theorem law_worths_own {n : Nat} {M : Sto} (d : Deal Rs M) : ∃ S g M', callN T (n + 4) "_law_worths" [.loc 1] M = .ok (wtD S g) M' ∧ (∀ m ∈ NL, (gW S g m).natAbs < 2 ^ 100) ∧ Deal Rs M' ∧ ∀ m, S m = true → m ∈ NW := by
  obtain ⟨r, M1, bs, M2, a1, a2, a3, a4, a5, a6⟩ := draw_names (n := n) (bound := 7) (k := 3) (env := [some (.loc 1), none, none, none]) d (by decide) (by decide) (el := f_law_worths_c0) rfl (fun x => rfl)
  have s1 := bd_sset (m := false) (M := M2) (Nat.lt_trans a6 (by decide))
  rw [names_sorted a5] at s1
  obtain ⟨g, M3, b1, b2, b3⟩ := draw_pairs (n := n) (k := 2) (env := [some (.loc 1), some (.lst ((NL.filter fun n => decide (n ∈ bs)).map .str)), none, none]) (l := NL.filter fun n => decide (n ∈ bs)) a4 (NL_nd.sublist List.filter_sublist) (el := f_law_worths_c1) rfl (fun x => ⟨rfl, rfl⟩)
  refine ⟨fun n => decide (n ∈ bs), g, M3, ?_, fun m hm => ?_, b2, fun m hm => a5 m (of_decide_eq_true hm)⟩
  · refine free_call (fn := f_law_worths) (by kernel_rfl) rfl rfl ?_
    simp [f_law_worths, a1, a2]
    rw [a3]
    simp [s1]
    rw [b1]
    simp [wtD]
  · unfold gW
    by_cases h : m ∈ bs
    · rw [if_pos (decide_eq_true h)]; exact b3 m (List.mem_filter.mpr ⟨hm, decide_eq_true h⟩)
    · rw [if_neg (by simpa using h)]; decide
theorem law_worths_ok {n : Nat} {M : Sto} (d : Deal Rs M) : ∃ S g M', callN T (n + 4) "_law_worths" [.loc 1] M = .ok (wtD S g) M' ∧ (∀ m ∈ NL, (gW S g m).natAbs < 2 ^ 100) ∧ Deal Rs M' := by
  obtain ⟨S, g, M', h1, h2, h3, _⟩ := law_worths_own (n := n) d
  exact ⟨S, g, M', h1, h2, h3⟩
end K06T
end Z


/-! K03C: forms and worths, the plain law. -/
namespace Z
namespace K06T
open PySem L2
def sumN (h : Str → Int) : Int := (NL.map h).sum
theorem sum_add (h k : Str → Int) : ∀ l : List Str, (l.map fun n => h n + k n).sum = (l.map h).sum + (l.map k).sum
  | [] => rfl
  | n :: r => by
    rw [List.map_cons, List.map_cons, List.map_cons, List.sum_cons, List.sum_cons, List.sum_cons, sum_add h k r]
    omega
theorem sum_mul (h : Str → Int) (a : Int) : ∀ l : List Str, (l.map fun n => h n * a).sum = (l.map h).sum * a
  | [] => by simp
  | n :: r => by
    rw [List.map_cons, List.map_cons, List.sum_cons, List.sum_cons, sum_mul h a r, Int.add_mul]
theorem sum_congr {h k : Str → Int} : ∀ {l : List Str}, (∀ n ∈ l, h n = k n) → (l.map h).sum = (l.map k).sum := fun {l} e => by
  rw [List.map_congr_left e]
theorem sum_at {f : Str → Int} {G : Str → Int} {V : Int} {x : Str} : ∀ {l : List Str}, l.Nodup → (l.map fun n => f n * (if n = x then V else G n)).sum = (l.map fun n => (if n = x then 0 else f n) * G n).sum + (if x ∈ l then f x * V else 0)
  | [], _ => rfl
  | n :: r, nd => by
    obtain ⟨n1, n2⟩ := List.nodup_cons.mp nd
    rw [List.map_cons, List.map_cons, List.sum_cons, List.sum_cons, sum_at n2]
    by_cases e : n = x
    · subst e
      simp [n1]
      omega
    · have e' : x ≠ n := fun h => e h.symm
      simp [e, e']
      omega
/-- a form put for a name, and its worth -/
theorem wv_put {c c' : Int} {f f' G : Str → Int} {x : Str} (hx : x ∈ NL) : wv (c + c' * f x) (putF f f' x) G = wv c f (fun n => if n = x then wv c' f' G else G n) := by
  unfold wv
  rw [sum_at NL_nd, if_pos hx]
  have e1 : (NL.map fun n => putF f f' x n * G n).sum = (NL.map fun n => (if n = x then 0 else f n) * G n).sum + (NL.map fun n => f' n * G n).sum * f x := by
    rw [← sum_mul, ← sum_add]
    apply sum_congr
    intro n _
    unfold putF
    rw [Int.add_mul, Int.mul_assoc, Int.mul_assoc, Int.mul_comm (f x)]
  rw [e1, Int.mul_add, Int.mul_comm (f x) c', Int.mul_comm (f x)]
  omega
theorem wv_congr {c : Int} {f G G' : Str → Int} (h : ∀ n ∈ NL, G n = G' n) : wv c f G = wv c f G' := by
  unfold wv
  rw [sum_congr fun n hn => by rw [h n hn]]
/-! ### bounds -/
theorem abs_mul {i j : Int} {a b : Nat} (h : i.natAbs < 2 ^ a) (h' : j.natAbs < 2 ^ b) : (i * j).natAbs < 2 ^ (a + b) := by
  rw [Int.natAbs_mul, Nat.pow_add]
  exact Nat.mul_lt_mul'' h h'
theorem pow_le {a b : Nat} (h : a ≤ b) : 2 ^ a ≤ 2 ^ b := Nat.pow_le_pow_right (by decide) h
theorem up {i : Int} {a b : Nat} (h : i.natAbs < 2 ^ a) (hl : a ≤ b) : i.natAbs < 2 ^ b := Nat.lt_of_lt_of_le h (pow_le hl)
theorem abs_add {i j : Int} {a : Nat} (h : i.natAbs < 2 ^ a) (h' : j.natAbs < 2 ^ a) : (i + j).natAbs < 2 ^ (a + 1) := by
  have := Int.natAbs_add_le i j
  rw [Nat.pow_succ]
  omega
theorem abs_sub {i j : Int} {a : Nat} (h : i.natAbs < 2 ^ a) (h' : j.natAbs < 2 ^ a) : (i - j).natAbs < 2 ^ (a + 1) := by
  have := Int.natAbs_sub_le i j
  rw [Nat.pow_succ]
  omega
theorem abs_sum {h : Str → Int} {a : Nat} : ∀ {l : List Str}, (∀ n ∈ l, (h n).natAbs < 2 ^ a) → (l.map h).sum.natAbs ≤ l.length * 2 ^ a
  | [], _ => by simp
  | n :: r, e => by
    rw [List.map_cons, List.sum_cons, List.length_cons, Nat.add_mul, Nat.one_mul]
    have h1 := e n List.mem_cons_self
    have h2 := abs_sum (l := r) fun m hm => e m (List.mem_cons_of_mem _ hm)
    have h3 := Int.natAbs_add_le (h n) (r.map h).sum
    omega
theorem wv_small {c : Int} {f G : Str → Int} {b k : Nat} (s : Sm b c f) (hG : ∀ n ∈ NL, (G n).natAbs < 2 ^ k) : (wv c f G).natAbs < 2 ^ (b + k + 5) := by
  have h1 := abs_sum (h := fun n => f n * G n) (a := b + k) (l := NL) fun n hn => abs_mul (s.f n hn) (hG n hn)
  have h2 : NL.length = 12 := rfl
  have h3 := Int.natAbs_add_le c (NL.map fun n => f n * G n).sum
  have h4 : c.natAbs < 2 ^ (b + k) := up s.c (by omega)
  unfold wv
  rw [Nat.pow_add]
  rw [h2] at h1
  show _ < 2 ^ (b + k) * 32
  omega
theorem Sm.up {b b' : Nat} {c : Int} {f : Str → Int} (s : Sm b c f) (h : b ≤ b') : Sm b' c f := ⟨K06T.up s.c h, fun n hn => K06T.up (s.f n hn) h⟩
theorem Sm.add {b : Nat} {c c' : Int} {f f' : Str → Int} (s : Sm b c f) (s' : Sm b c' f') : Sm (b + 1) (c + c') (fun n => f n + f' n) := ⟨abs_add s.c s'.c, fun n hn => abs_add (s.f n hn) (s'.f n hn)⟩
theorem Sm.mul {b k : Nat} {c a : Int} {f : Str → Int} (s : Sm b c f) (h : a.natAbs < 2 ^ k) : Sm (b + k) (c * a) (fun n => f n * a) := ⟨abs_mul s.c h, fun n hn => abs_mul (s.f n hn) h⟩
theorem Sm.put {b b' : Nat} {c c' : Int} {f f' : Str → Int} {x : Str} (hx : x ∈ NL) (s : Sm b c f) (s' : Sm b' c' f') : Sm (b' + b + 1) (c + c' * f x) (putF f f' x) := by
  refine ⟨abs_add (K06T.up s.c (by omega)) (abs_mul s'.c (s.f x hx)), fun n hn => ?_⟩
  unfold putF
  refine abs_add ?_ (abs_mul (s'.f n hn) (s.f x hx))
  split
  · exact Nat.two_pow_pos _
  · exact K06T.up (s.f n hn) (by omega)
/-! ### steps -/
structure Stp where
  x : Str
  c : Int
  f : Str → Int
def Stp.d (s : Stp) : D := .tup [.str s.x, fmD s.c s.f]
def Stp.ok (s : Stp) : Prop := s.x ∈ NW ∧ FD s.c s.f
def foundC : List Stp → Int → (Str → Int) → Int
  | [], c, _ => c
  | s :: r, c, f => foundC r (c + s.c * f s.x) (putF f s.f s.x)
def foundF : List Stp → Int → (Str → Int) → (Str → Int)
  | [], _, f => f
  | s :: r, c, f => foundF r (c + s.c * f s.x) (putF f s.f s.x)
def lateG : List Stp → (Str → Int) → (Str → Int)
  | [], G => G
  | s :: r, G => fun n => if n = s.x then wv s.c s.f (lateG r G) else lateG r G n
theorem late_ok : ∀ (st : List Stp) (c : Int) (f G : Str → Int), (∀ s ∈ st, s.x ∈ NL) → wv (foundC st c f) (foundF st c f) G = wv c f (lateG st G)
  | [], c, f, G, _ => rfl
  | s :: r, c, f, G, h => by
    show wv (foundC r _ _) (foundF r _ _) G = _
    rw [late_ok r _ _ G fun t ht => h t (List.mem_cons_of_mem _ ht), wv_put (h s List.mem_cons_self)]
    rfl
theorem found_snoc : ∀ (st : List Stp) (s : Stp) (c : Int) (f : Str → Int), foundC (st ++ [s]) c f = foundC st c f + s.c * foundF st c f s.x ∧ foundF (st ++ [s]) c f = putF (foundF st c f) s.f s.x
  | [], s, c, f => ⟨rfl, rfl⟩
  | t :: r, s, c, f => found_snoc r s _ _
end K06T
end Z


/-! K06F: formulas. -/
namespace Z
namespace K06T
open PySem L2
inductive Fm where
  | fact (c : Int) (f : Str → Int)
  | yes
  | no
  | nd (a : Bool) (ps : List Fm)
def wrd (a : Bool) : Str := if a then "and" else "or"
mutual
def Fm.d : Fm → D
  | .fact c f => .tup [.str "fact", fmD c f]
  | .yes => .tup [.str "yes"]
  | .no => .tup [.str "no"]
  | .nd a ps => .tup (.str (wrd a) :: Fm.ds ps)
def Fm.ds : List Fm → List D
  | [] => []
  | p :: r => Fm.d p :: Fm.ds r
end
mutual
def Fm.dp : Fm → Nat
  | .fact _ _ => 1
  | .yes => 1
  | .no => 1
  | .nd _ ps => Fm.dps ps + 1
def Fm.dps : List Fm → Nat
  | [] => 0
  | p :: r => max (Fm.dp p) (Fm.dps r)
end
mutual
def Fm.sz : Fm → Nat
  | .fact _ _ => 1
  | .yes => 1
  | .no => 1
  | .nd _ ps => Fm.szs ps + 1
def Fm.szs : List Fm → Nat
  | [] => 0
  | p :: r => Fm.sz p + Fm.szs r
end
mutual
def Fm.hld (G : Str → Int) : Fm → Bool
  | .fact c f => decide (0 ≤ wv c f G)
  | .yes => true
  | .no => false
  | .nd a ps => if a then Fm.alls G ps else Fm.anys G ps
def Fm.alls (G : Str → Int) : List Fm → Bool
  | [] => true
  | p :: r => Fm.hld G p && Fm.alls G r
def Fm.anys (G : Str → Int) : List Fm → Bool
  | [] => false
  | p :: r => Fm.hld G p || Fm.anys G r
end
mutual
def Fm.opp : Fm → Fm
  | .fact c f => .fact (-c - 1) fun n => -f n
  | .yes => .no
  | .no => .yes
  | .nd a ps => .nd (!a) (Fm.opps ps)
def Fm.opps : List Fm → List Fm
  | [] => []
  | p :: r => Fm.opp p :: Fm.opps r
end
theorem ds_map : ∀ ps : List Fm, Fm.ds ps = ps.map Fm.d
  | [] => rfl
  | p :: r => by rw [Fm.ds, ds_map r]; rfl
theorem opps_map : ∀ ps : List Fm, Fm.opps ps = ps.map Fm.opp
  | [] => rfl
  | p :: r => by rw [Fm.opps, opps_map r]; rfl
theorem alls_map {G : Str → Int} : ∀ ps : List Fm, Fm.alls G ps = (ps.map (Fm.hld G)).all id
  | [] => rfl
  | p :: r => by rw [Fm.alls, alls_map r]; rfl
theorem anys_map {G : Str → Int} : ∀ ps : List Fm, Fm.anys G ps = (ps.map (Fm.hld G)).any id
  | [] => rfl
  | p :: r => by rw [Fm.anys, anys_map r]; rfl
theorem szs_map : ∀ ps : List Fm, Fm.szs ps = (ps.map Fm.sz).sum
  | [] => rfl
  | p :: r => by rw [Fm.szs, szs_map r]; rfl
theorem dps_le : ∀ {ps : List Fm} {p : Fm}, p ∈ ps → p.dp ≤ Fm.dps ps
  | q :: r, p, h => by
    rw [Fm.dps]
    rcases List.mem_cons.mp h with rfl | h
    · exact Nat.le_max_left _ _
    · exact Nat.le_trans (dps_le h) (Nat.le_max_right _ _)
theorem dps_of {k : Nat} : ∀ {ps : List Fm}, (∀ p ∈ ps, p.dp ≤ k) → Fm.dps ps ≤ k
  | [], _ => Nat.zero_le _
  | q :: r, h => by
    rw [Fm.dps]
    exact Nat.max_le.mpr ⟨h q List.mem_cons_self, dps_of fun p hp => h p (List.mem_cons_of_mem _ hp)⟩
theorem szs_of {k : Nat} : ∀ {ps : List Fm}, (∀ p ∈ ps, p.sz ≤ k) → Fm.szs ps ≤ ps.length * k
  | [], _ => Nat.zero_le _
  | q :: r, h => by
    have h1 := h q List.mem_cons_self
    have h2 := szs_of (ps := r) fun p hp => h p (List.mem_cons_of_mem _ hp)
    rw [Fm.szs, List.length_cons, Nat.add_mul, Nat.one_mul]
    omega
theorem sz_pos : ∀ F : Fm, 1 ≤ F.sz := by intro F; cases F <;> (rw [Fm.sz]; omega)
theorem dp_pos : ∀ F : Fm, 1 ≤ F.dp := by intro F; cases F <;> (rw [Fm.dp]; omega)
theorem szs_len : ∀ ps : List Fm, ps.length ≤ Fm.szs ps
  | [] => Nat.zero_le _
  | p :: r => by
    have h1 := sz_pos p
    have h2 := szs_len r
    rw [Fm.szs, List.length_cons]; omega
theorem sz_mem : ∀ {ps : List Fm} {p : Fm}, p ∈ ps → p.sz ≤ Fm.szs ps
  | q :: r, p, h => by
    rw [Fm.szs]
    rcases List.mem_cons.mp h with rfl | h
    · omega
    · have := sz_mem h; omega
/-- formulas of forms of small numbers -/
inductive Fm.Ok (b : Nat) : Fm → Prop where
  | fact {c : Int} {f : Str → Int} : Sm b c f → Fm.Ok b (.fact c f)
  | yes : Fm.Ok b .yes
  | no : Fm.Ok b .no
  | nd {a : Bool} {ps : List Fm} : 2 ≤ ps.length → (∀ p ∈ ps, Fm.Ok b p) → Fm.Ok b (.nd a ps)
theorem Fm.Ok.up {b b' : Nat} {F : Fm} (h : F.Ok b) (hb : b ≤ b') : F.Ok b' := by
  induction h with
  | fact s => exact .fact (s.up hb)
  | yes => exact .yes
  | no => exact .no
  | nd h1 _ ih => exact .nd h1 ih
section
variable {b : Nat} {F : Fm}
/-! ### their shapes -/
theorem nm_fit : ∀ x ∈ NL, (x.cps.all fun c => decide (c < 0x110000)) = true := by decide +kernel
theorem str_fit {x : Str} {k : Nat} (h : (x.cps.all fun c => decide (c < 0x110000)) = true) : D.fit k (.str x) = true := by cases k <;> exact h
theorem int_fit {i : Int} {k : Nat} : D.fit k (.int i) = true := by cases k <;> rfl
theorem prs_fit {l : List Str} {g : Str → Int} {k : Nat} (h : ∀ x ∈ l, x ∈ NL) : D.fits (k + 1) (prsD l g) = true := by
  induction l with
  | nil => rfl
  | cons x r ih =>
    show (D.fit (k + 1) (.tup [.str x, .int (g x)]) && D.fits (k + 1) (prsD r g)) = true
    rw [ih fun y hy => h y (List.mem_cons_of_mem _ hy)]
    show ((D.fit k (.str x) && (D.fit k (.int (g x)) && true)) && true) = true
    rw [str_fit (nm_fit x (h x List.mem_cons_self)), int_fit]; rfl
theorem fm_fit {c : Int} {f : Str → Int} {k : Nat} : D.fit (k + 3) (fmD c f) = true := by
  show (D.fit (k + 2) (.int c) && (D.fits (k + 1) (prsD (rowL f) f) && true)) = true
  rw [prs_fit fun x hx => (row_sub f).subset hx]; rfl
theorem fits_of {k : Nat} : ∀ {l : List D}, (∀ d ∈ l, D.fit k d = true) → D.fits k l = true
  | [], _ => by rw [D.fits]
  | x :: r, h => by
    rw [D.fits, h x List.mem_cons_self, fits_of fun d hd => h d (List.mem_cons_of_mem _ hd)]; rfl
theorem fits_all {k : Nat} : ∀ {l : List D}, D.fits k l = true → ∀ d ∈ l, D.fit k d = true
  | x :: r, h, d, hd => by
    rw [D.fits, Bool.and_eq_true] at h
    rcases List.mem_cons.mp hd with rfl | hd
    · exact h.1
    · exact fits_all h.2 d hd
theorem Fm.Ok.fit (h : F.Ok b) : ∀ k, F.dp + 3 ≤ k → D.fit k F.d = true := by
  induction h with
  | @fact c f s =>
    intro k hk
    obtain ⟨j, rfl⟩ : ∃ j, k = j + 4 := ⟨k - 4, by rw [Fm.dp] at hk; omega⟩
    rw [Fm.d]
    show (D.fit (j + 3) (.str "fact") && (D.fit (j + 3) (fmD c f) && true)) = true
    rw [fm_fit, str_fit (by decide +kernel)]; rfl
  | yes =>
    intro k hk
    obtain ⟨j, rfl⟩ : ∃ j, k = j + 1 := ⟨k - 1, by omega⟩
    rw [Fm.d]
    show (D.fit j (.str "yes") && true) = true
    rw [str_fit (by decide +kernel)]; rfl
  | no =>
    intro k hk
    obtain ⟨j, rfl⟩ : ∃ j, k = j + 1 := ⟨k - 1, by omega⟩
    rw [Fm.d]
    show (D.fit j (.str "no") && true) = true
    rw [str_fit (by decide +kernel)]; rfl
  | @nd a ps h1 h2 ih =>
    intro k hk
    rw [Fm.dp] at hk
    obtain ⟨j, rfl⟩ : ∃ j, k = j + 1 := ⟨k - 1, by omega⟩
    rw [Fm.d, ds_map]
    show (D.fit j (.str (wrd a)) && D.fits j (ps.map Fm.d)) = true
    rw [fits_of fun d hd => by
      obtain ⟨p, hp, rfl⟩ := List.mem_map.mp hd
      exact ih p hp j (by have := dps_le hp; omega)]
    rw [str_fit (by cases a <;> decide +kernel)]; rfl
theorem dats_of {k : Nat} : ∀ {l : List D}, (∀ d ∈ l, D.dat k d = true) → D.dats k l = true
  | [], _ => by rw [D.dats]
  | x :: r, h => by
    rw [D.dats, h x List.mem_cons_self, dats_of fun d hd => h d (List.mem_cons_of_mem _ hd)]; rfl
theorem str_dat {x : Str} {k : Nat} : D.dat k (.str x) = true := by cases k <;> rfl
theorem Fm.Ok.dat (h : F.Ok b) : ∀ k, F.dp + 3 ≤ k → D.dat k F.d = true := by
  induction h with
  | @fact c f s =>
    intro k hk
    obtain ⟨j, rfl⟩ : ∃ j, k = j + 4 := ⟨k - 4, by rw [Fm.dp] at hk; omega⟩
    rw [Fm.d]
    show (D.dat (j + 3) (.str "fact") && (D.dat (j + 3) (fmD c f) && true)) = true
    rw [fm_dat]; rfl
  | yes => intro k hk; obtain ⟨j, rfl⟩ : ∃ j, k = j + 1 := ⟨k - 1, by omega⟩; cases j <;> rfl
  | no => intro k hk; obtain ⟨j, rfl⟩ : ∃ j, k = j + 1 := ⟨k - 1, by omega⟩; cases j <;> rfl
  | @nd a ps h1 h2 ih =>
    intro k hk
    rw [Fm.dp] at hk
    obtain ⟨j, rfl⟩ : ∃ j, k = j + 1 := ⟨k - 1, by omega⟩
    rw [Fm.d, ds_map]
    show (D.dat j (.str (wrd a)) && D.dats j (ps.map Fm.d)) = true
    rw [dats_of fun d hd => by
      obtain ⟨p, hp, rfl⟩ := List.mem_map.mp hd
      exact ih p hp j (by have := dps_le hp; omega)]
    rw [str_dat]; rfl
theorem pures_of : ∀ {l : List D}, (∀ d ∈ l, D.pure d = true) → D.pures l = true
  | [], _ => rfl
  | x :: r, h => by
    show (D.pure x && D.pures r) = true
    rw [h x List.mem_cons_self, pures_of fun d hd => h d (List.mem_cons_of_mem _ hd)]; rfl
theorem Fm.Ok.pure (h : F.Ok b) : F.d.pure = true := by
  induction h with
  | @fact c f s =>
    rw [Fm.d]
    show (D.pure (.str "fact") && (D.pure (fmD c f) && true)) = true
    rw [fm_pure]; rfl
  | yes => rfl
  | no => rfl
  | @nd a ps h1 h2 ih =>
    rw [Fm.d, ds_map]
    show (D.pure (.str (wrd a)) && D.pures (ps.map Fm.d)) = true
    rw [pures_of fun d hd => by obtain ⟨p, hp, rfl⟩ := List.mem_map.mp hd; exact ih p hp]; rfl
/-! ### what is a formula -/
theorem eq_unit {M : Sto} {d : D} {xs : List D} (h : D.fit 64 (.tup (d :: xs)) = true) : eqD M (.tup (d :: xs)) (.tup []) = some false := by
  unfold eqD
  rw [if_neg (by simp [D.scal, D.flat])]
  show (if (D.fit 64 (.tup (d :: xs)) && D.fit 64 (.tup [])) = true then _ else _) = _
  rw [h]; rfl
theorem eq_loc {M : Sto} {a : Nat} {xs : List D} (h : M[a]? = some (.lst xs)) (hf : D.fits 63 xs = true) : eqD M (.loc a) (.lst []) = some xs.isEmpty := by
  have h1 : D.seen M (.loc a) = .lst xs := by simp only [D.seen, h]
  unfold eqD
  rw [if_neg (by simp [D.scal, D.flat]), h1]
  have h2 : (D.fit 64 (.lst xs) && D.fit 64 (D.seen M (.lst []))) = true := by
    have e1 : D.fit 64 (.lst xs) = true := hf
    rw [e1]; rfl
  dsimp only
  rw [if_pos h2]
  cases xs <;> rfl
def Fm.kids : Fm → List Fm
  | .nd _ ps => ps
  | _ => []
theorem in_yn {M : Sto} : inD M (.str "fact") (.tup [.str "yes", .str "no"]) = some false ∧ inD M (.str "yes") (.tup [.str "yes", .str "no"]) = some true ∧ inD M (.str "no") (.tup [.str "yes", .str "no"]) = some true ∧
    inD M (.str "and") (.tup [.str "yes", .str "no"]) = some false ∧ inD M (.str "or") (.tup [.str "yes", .str "no"]) = some false ∧ inD M (.str "and") (.tup [.str "and", .str "or"]) = some true ∧ inD M (.str "or") (.tup [.str "and", .str "or"]) = some true := by
  refine ⟨?_, ?_, ?_, ?_, ?_, ?_, ?_⟩ <;> kernel_rfl
theorem wd_ne : (("fact" : Str) == "fact") = true ∧ (("and" : Str) == "fact") = false ∧ (("or" : Str) == "fact") = false ∧ (("yes" : Str) == "yes") = true ∧ (("no" : Str) == "yes") = false ∧ (("and" : Str) == "and") = true ∧ (("or" : Str) == "and") = false ∧ (("yes" : Str) == "fact") = false ∧ (("no" : Str) == "fact") = false := by
  refine ⟨?_, ?_, ?_, ?_, ?_, ?_, ?_, ?_, ?_⟩ <;> decide +kernel
theorem cut1 {d : D} {xs : List D} : cut (d :: xs) (some 1) none = xs := cut_from (k := 1)
theorem inner_ok' {n : Nat} (h : F.Ok b) (hd : F.dp ≤ 60) : Calc (callN T (n + 4)) "inner_formulas" [F.d] (.tup [.tup (F.kids.map Fm.d), .bl true]) := by
  obtain ⟨w1, w2, w3, w4, w5, w6, w7, w8, w9⟩ := wd_ne
  have hp : D.pure (.tup [.tup (F.kids.map Fm.d), .bl true]) = true := by
    have : D.pures (F.kids.map Fm.d) = true := pures_of fun d hd => by
      obtain ⟨p, hp, rfl⟩ := List.mem_map.mp hd
      cases h with
      | nd _ h2 => exact (h2 p hp).pure
      | _ => cases hp
    show (D.pures (F.kids.map Fm.d) && _) = true
    rw [this]; rfl
  refine own_call (fn := f_inner_formulas) (by kernel_rfl) rfl rfl hp fun M => ⟨[], ?_⟩
  rw [List.append_nil]
  obtain ⟨i1, i2, i3, i4, i5, i6, i7⟩ := in_yn (M := M)
  have hf := h.fit 64 (by omega)
  cases h with
  | @fact c f s =>
    rw [Fm.d] at hf ⊢
    have he := eq_unit (M := M) hf
    have h1 := is_form_ok (n := n) (c := c) (f := f) M
    simp [f_inner_formulas, he, i1, h1, w1, Fm.kids]
  | yes =>
    rw [Fm.d] at hf ⊢
    have he := eq_unit (M := M) hf
    simp [f_inner_formulas, he, i2, Fm.kids]
  | no =>
    rw [Fm.d] at hf ⊢
    have he := eq_unit (M := M) hf
    simp [f_inner_formulas, he, i3, Fm.kids]
  | @nd a ps h1 h2 =>
    rw [Fm.d, ds_map] at hf ⊢
    have he := eq_unit (M := M) hf
    have hl : decide ((2 : Int) < ((ps.length : Int) + 1)) = true := decide_eq_true (by omega)
    cases a
    · simp [f_inner_formulas, wrd, i5, w3, i7, Fm.kids, slcD, cut1] at he ⊢
      simp [he, i5, w3, i7, hl, slcD, cut1]
    · simp [f_inner_formulas, wrd, i4, w2, i6, Fm.kids, slcD, cut1] at he ⊢
      simp [he, i4, w2, i6, hl, slcD, cut1]
/-! the walk through the parts: a list of what waits, the last one first -/
def wtI (p : Fm × Int) : D := .tup [p.1.d, .int p.2]
theorem wt_fit {st : List (Fm × Int)} (h : ∀ p ∈ st, p.1.Ok b ∧ p.1.dp ≤ 50) : D.fits 63 (st.map wtI) = true := fits_of fun d hd => by
  obtain ⟨p, hp, rfl⟩ := List.mem_map.mp hd
  obtain ⟨h1, h2⟩ := h p hp
  show (D.fit 62 p.1.d && (D.fit 62 (.int p.2) && true)) = true
  rw [h1.fit 62 (by omega)]; rfl
def tot (st : List (Fm × Int)) : Nat := (st.map fun p => p.1.sz).sum
theorem tot_app {a c : List (Fm × Int)} : tot (a ++ c) = tot a + tot c := by unfold tot; rw [List.map_append, List.sum_append]
theorem tot_kids {F : Fm} {k : Int} : tot (F.kids.map fun q => (q, k)) + 1 = F.sz := by
  have e : tot (F.kids.map fun q => (q, k)) = Fm.szs F.kids := by
    unfold tot
    rw [List.map_map, szs_map]; rfl
  rw [e]
  cases F <;> rfl
theorem kids_ok {F : Fm} (h : F.Ok b) : ∀ q ∈ F.kids, q.Ok b ∧ q.dp + 1 ≤ F.dp := by
  intro q hq
  cases h with
  | @nd a ps _ h2 => exact ⟨h2 q hq, by rw [Fm.dp]; have : q.dp ≤ Fm.dps ps := dps_le hq; omega⟩
  | _ => cases hq
theorem isf_loop {n : Nat} {P : Sto} {p0 : Option D} : ∀ (k : Nat) (st : List (Fm × Int)) (parts : Int) (x3 x4 x5 x6 x7 : Option D), tot st = k → (∀ p ∈ st, p.1.Ok b ∧ p.2 + p.1.dp ≤ 41 ∧ p.1.dp ≤ 40) → parts + k ≤ 4000 → 0 ≤ parts →
    ∃ parts' y3 y4 y5 y6 y7, whlN (fun env M => evE (callN T (n + 4)) f_is_formula_w0 env M) (fun env M => evSs (callN T (n + 4)) f_is_formula_b0 env M) (k + 1) [p0, some (.loc P.length), some (.int parts), x3, x4, x5, x6, x7] (P ++ [.lst (st.map wtI)]) = .ok (.nx [p0, some (.loc P.length), some (.int parts'), y3, y4, y5, y6, y7]) (P ++ [.lst []])
  | k, st, parts, x3, x4, x5, x6, x7, hk, ho, hp, h0 => by
    have hfit := wt_fit (st := st) fun p hp => ⟨(ho p hp).1, by have := (ho p hp).2.2; omega⟩
    have heq := eq_loc (at_last (M := P) (o := .lst (st.map wtI))) hfit
    rcases List.eq_nil_or_concat st with e | ⟨pre, ⟨F, j⟩, e⟩
    · subst e
      refine ⟨parts, x3, x4, x5, x6, x7, ?_⟩
      unfold whlN
      simp at heq
      simp [f_is_formula_w0, heq]
    · rw [List.concat_eq_append] at e
      subst e
      obtain ⟨hF, hj, hd⟩ : F.Ok b ∧ j + (F.dp : Int) ≤ 41 ∧ F.dp ≤ 40 := ho (F, j) (by simp)
      have htot : tot (pre ++ F.kids.map fun q => (q, j + 1)) + 1 = k := by
        rw [← hk, tot_app, tot_app]
        have := tot_kids (F := F) (k := j + 1)
        have e2 : tot [(F, j)] = F.sz := by unfold tot; simp
        omega
      have hsz : 1 + F.kids.length ≤ F.sz := by
        have := szs_len F.kids
        have e := tot_kids (F := F) (k := j)
        have e2 : tot (F.kids.map fun q => (q, j)) = Fm.szs F.kids := by
          unfold tot
          rw [List.map_map, szs_map]; rfl
        omega
      have hkF : F.sz ≤ k := by
        rw [← hk, tot_app]
        have e2 : tot [(F, j)] = F.sz := by unfold tot; simp
        omega
      obtain ⟨k', rfl⟩ : ∃ k', k = k' + 1 := ⟨k - 1, by omega⟩
      have hpre : pre.length ≤ tot pre := by
        clear htot heq hfit ho hk hkF hsz
        induction pre with
        | nil => exact Nat.zero_le _
        | cons q r ih =>
          have := sz_pos q.1
          unfold tot at ih ⊢
          rw [List.map_cons, List.sum_cons, List.length_cons]
          omega
      have hpre2 : tot pre ≤ k' := by
        rw [tot_app] at htot
        omega
      obtain ⟨parts', y3, y4, y5, y6, y7, ih⟩ := isf_loop (n := n) (P := P) (p0 := p0) k' (pre ++ F.kids.map fun q => (q, j + 1)) (parts + 1) (some F.d) (some (.int j)) (some (.tup (F.kids.map Fm.d))) (some (.bl true)) x7 (by omega) (fun p hp => by
        rcases List.mem_append.mp hp with hp | hp
        · exact ho p (List.mem_append_left _ hp)
        · obtain ⟨q, hq, rfl⟩ := List.mem_map.mp hp
          obtain ⟨q1, q2⟩ := kids_ok hF q hq
          exact ⟨q1, by show j + 1 + (q.dp : Int) ≤ 41; omega, by show q.dp ≤ 40; omega⟩) (by omega) (by omega)
      refine ⟨parts', y3, y4, y5, y6, y7, ?_⟩
      have hne : (pre ++ [(F, j)]).map wtI = pre.map wtI ++ [.tup [F.d, .int j]] := by rw [List.map_append]; rfl
      rw [hne] at heq ⊢
      have hemp : (pre.map wtI ++ [D.tup [F.d, .int j]]).isEmpty = false := by simp
      rw [hemp] at heq
      have h1 := md_pop (at_last (M := P) (o := .lst (pre.map wtI ++ [D.tup [F.d, .int j]])))
      rw [set_last] at h1
      have h2 := kd_pop (at_last (M := P) (o := .lst (pre.map wtI ++ [D.tup [F.d, .int j]])))
      have h3 := inner_ok' (n := n) hF (by omega) (P ++ [.lst (pre.map wtI)])
      have h4 := kd_extend (at_last (M := P) (o := .lst (pre.map wtI)))
      have h5 := md_extend (ys := F.kids.map fun q => D.tup [q.d, .int (j + 1)]) (at_last (M := P) (o := .lst (pre.map wtI))) (by rw [List.length_map, List.length_map]; omega)
      rw [set_last] at h5
      have h6 : compGo (.n 7) (fun _ M => .ok true M) (fun env M => evE (callN T (n + 4)) f_is_formula_c0 env M) [p0, some (.loc P.length), some (.int (parts + 1)), some F.d, some (.int j), some (.tup (F.kids.map Fm.d)), some (.bl true), none] (F.kids.map Fm.d) (P ++ [.lst (pre.map wtI)]) = .ok (F.kids.map fun q => D.tup [q.d, .int (j + 1)]) (P ++ [.lst (pre.map wtI)]) := by
        rw [comp_pure (p := fun _ => true) (q := fun d => .tup [d, .int (j + 1)]) fun d hd => ⟨_, rfl, rfl, fun _ => by simp [f_is_formula_c0]⟩]
        rw [List.filter_eq_self.mpr (fun _ _ => rfl), List.map_map]; rfl
      have g1 : decide (40 < j) = false := decide_eq_false (by have := dp_pos F; omega)
      have g2 : decide ((4000 : Int) < parts + 1 + ((F.kids.length : Nat) : Int)) = false := decide_eq_false (by omega)
      have h7 : (pre ++ F.kids.map fun q => (q, j + 1)).map wtI = pre.map wtI ++ F.kids.map fun q => D.tup [q.d, .int (j + 1)] := by rw [List.map_append, List.map_map]; rfl
      rw [h7] at ih
      have hc : evE (callN T (n + 4)) f_is_formula_w0 [p0, some (.loc P.length), some (.int parts), x3, x4, x5, x6, x7] (P ++ [.lst (pre.map wtI ++ [D.tup [F.d, .int j]])]) = .ok (.bl true) (P ++ [.lst (pre.map wtI ++ [D.tup [F.d, .int j]])]) := by
        simp [f_is_formula_w0, heq]
      have hb : evSs (callN T (n + 4)) f_is_formula_b0 [p0, some (.loc P.length), some (.int parts), x3, x4, x5, x6, x7] (P ++ [.lst (pre.map wtI ++ [D.tup [F.d, .int j]])]) = .ok (.nx [p0, some (.loc P.length), some (.int (parts + 1)), some F.d, some (.int j), some (.tup (F.kids.map Fm.d)), some (.bl true), x7]) (P ++ [.lst (pre.map wtI ++ F.kids.map fun q => D.tup [q.d, .int (j + 1)])]) := by
        simp [f_is_formula_b0, h1, h2, h3, g1, g2, h4] at h6 ⊢
        rw [h6]
        simp [h5]
      unfold whlN
      rw [hc]
      dsimp only [out_ok]
      rw [hb]
      exact ih
theorem is_formula_ok {n : Nat} {F : Fm} (h : F.Ok b) (hd : F.dp ≤ 40) (hs : F.sz ≤ 4000) : Calc (callN T (n + 5)) "is_formula" [F.d] (.bl true) := by
  refine own_call (fn := f_is_formula) (by kernel_rfl) rfl rfl rfl fun M => ⟨[.lst []], ?_⟩
  obtain ⟨parts', y3, y4, y5, y6, y7, e⟩ := isf_loop (n := n) (P := M) (p0 := some F.d) (b := b) F.sz [(F, 1)] 0 none none none none none (by unfold tot; simp) (fun p hp => by
    rw [List.mem_singleton] at hp
    subst hp
    exact ⟨h, by show (1 : Int) + (F.dp : Int) ≤ 41; omega, hd⟩) (by omega) (by omega)
  have e4 := whl_go (n := F.sz + 1) (c := fun env M => evE (callN T (n + 4)) f_is_formula_w0 env M) (b := fun env M => evSs (callN T (n + 4)) f_is_formula_b0 env M) (env := [some F.d, some (.loc M.length), some (.int 0), none, none, none, none, none]) (M := M ++ [.lst ([(F, 1)].map wtI)]) (by rw [e]; exact fun h => by cases h)
  rw [e] at e4
  simp [wtI] at e4
  simp [f_is_formula]
  rw [e4]
  simp
theorem checked_formula_ok {n : Nat} {F : Fm} {k : Int} (h : F.Ok b) (hd : F.dp ≤ 40) (hs : F.sz ≤ 4000) : Calc (callN T (n + 6)) "checked_formula" [F.d, .int k] .non := by
  refine own_callN (fn := f_checked_formula) (by kernel_rfl) rfl rfl fun M => ⟨[some F.d, some (.int k)], [], ?_⟩
  rw [List.append_nil]
  have h1 := is_formula_ok (n := n) h hd hs M
  simp [f_checked_formula, h1]
end
end K06T
end Z


/-! K06G: formulas by worths, their opposites. -/
namespace Z
namespace K06T
open PySem L2
section
variable {b : Nat} {F : Fm}
/-- a comprehension over formulas -/
theorem comp_fm {t : Nat} {el : En → Sto → Res D} {env : En} {M : Sto} {q : Fm → D} : ∀ {ps : List Fm}, (∀ p ∈ ps, el (env.set t (some p.d)) M = .ok (q p) M) →
    compGo (.n t) (fun _ M => .ok true M) el env (ps.map Fm.d) M = .ok (ps.map q) M
  | [], _ => rfl
  | p :: r, h => by
    have ih := comp_fm (t := t) (el := el) (env := env) (M := M) (q := q) (ps := r) fun p hp => h p (List.mem_cons_of_mem _ hp)
    rw [List.map_cons]
    unfold compGo
    show ((el (env.set t (some p.d)) M).calm.bind fun y M2 => (compGo (.n t) (fun _ M => .ok true M) el env (r.map Fm.d) M2).bind fun ys M3 => Res.ok (y :: ys) M3) = _
    rw [h p List.mem_cons_self]
    show (compGo (.n t) (fun _ M => .ok true M) el env (r.map Fm.d) M).bind (fun ys M3 => Res.ok (q p :: ys) M3) = _
    rw [ih]; rfl
theorem is_so_ok {G : Str → Int} {kvs : List (Key × D)} {k : Nat} (hW : WK kvs G) (hb : b ≤ 900000) (hk : k ≤ 90000) (hG : ∀ n ∈ NL, (G n).natAbs < 2 ^ k) (h : F.Ok b) : ∀ (m a : Nat) (M : Sto), M[a]? = some (.dct kvs) → F.dp + 1 ≤ m → callN T m "is_so" [F.d, .loc a] M = .ok (.bl (F.hld G)) M := by
  obtain ⟨w1, w2, w3, w4, w5, w6, w7, w8, w9⟩ := wd_ne
  induction h with
  | @fact c f s =>
    intro m a M hM hm
    obtain ⟨m', rfl⟩ : ∃ m', m = m' + 2 := ⟨m - 2, by rw [Fm.dp] at hm; omega⟩
    refine own_callM (fn := f_is_so) (by kernel_rfl) rfl rfl rfl ⟨[], ?_⟩
    rw [List.append_nil, Fm.d, Fm.hld]
    have h1 := worth_of_gen (n := m') (c := c) (f := f) hM hW fun n hn => mul1 (s.f n hn) hb (hG n hn) hk
    simp [f_is_so, h1, w1]
  | yes =>
    intro m a M hM hm
    obtain ⟨m', rfl⟩ : ∃ m', m = m' + 1 := ⟨m - 1, by omega⟩
    obtain ⟨i1, i2, i3, i4, i5, i6, i7⟩ := in_yn (M := M)
    refine own_callM (fn := f_is_so) (by kernel_rfl) rfl rfl rfl ⟨[], ?_⟩
    rw [List.append_nil, Fm.d, Fm.hld]
    simp [f_is_so, w4, w8, i2]
  | no =>
    intro m a M hM hm
    obtain ⟨m', rfl⟩ : ∃ m', m = m' + 1 := ⟨m - 1, by omega⟩
    obtain ⟨i1, i2, i3, i4, i5, i6, i7⟩ := in_yn (M := M)
    refine own_callM (fn := f_is_so) (by kernel_rfl) rfl rfl rfl ⟨[], ?_⟩
    rw [List.append_nil, Fm.d, Fm.hld]
    simp [f_is_so, w5, w9, i3]
  | @nd e ps h1 h2 ih =>
    intro m a M hM hm
    rw [Fm.dp] at hm
    obtain ⟨m', rfl⟩ : ∃ m', m = m' + 1 := ⟨m - 1, by omega⟩
    obtain ⟨i1, i2, i3, i4, i5, i6, i7⟩ := in_yn (M := M)
    refine own_callM (fn := f_is_so) (by kernel_rfl) rfl rfl rfl ⟨[], ?_⟩
    rw [List.append_nil, Fm.d, Fm.hld, ds_map, alls_map, anys_map]
    have g1 : compGo (.n 4) (fun _ M => .ok true M) (fun env M => evE (callN T m') f_is_so_c0 env M) [some (.tup (.str (wrd e) :: ps.map Fm.d)), some (.loc a), some (.str (wrd e)), none, none] (ps.map Fm.d) M = .ok (ps.map fun p => .bl (p.hld G)) M := comp_fm fun p hp => by
      have g := ih p hp m' a M hM (by have : p.dp ≤ Fm.dps ps := dps_le hp; omega)
      simp [f_is_so_c0, g]
    have g2 := bd_all (m := false) (M := M) (bools_map (f := Fm.hld G) ps)
    have g3 := bd_any (m := false) (M := M) (bools_map (f := Fm.hld G) ps)
    cases e
    · simp [wrd] at g1
      simp [f_is_so, wrd, w3, i5, w7, slcD, cut1]
      rw [g1]
      simp [g3, w7]
    · simp [wrd] at g1
      simp [f_is_so, wrd, w2, i4, w6, slcD, cut1]
      rw [g1]
      simp [g2, w6]
theorem holds_ok {n k : Nat} {w : D} {G : Str → Int} {kvs : List (Key × D)} (h : F.Ok b) (hd : F.dp ≤ 40) (hs : F.sz ≤ 4000) (hn : F.dp ≤ n + 5) (hb : b ≤ 900000) (hk : k ≤ 90000) (hG : ∀ n ∈ NL, (G n).natAbs < 2 ^ k) (hW : WK kvs G)
    (h1 : Calc (callN T (n + 6)) "checked_worths" [w, .int 1] .non) (h2 : ∀ M, biD .dict false [w] M = .ok (.loc M.length) (M ++ [.dct kvs])) : Calc (callN T (n + 7)) "holds" [F.d, w] (.bl (F.hld G)) := by
  refine own_call (fn := f_holds) (by kernel_rfl) rfl rfl rfl fun M => ⟨[.dct kvs], ?_⟩
  have g1 := checked_formula_ok (n := n) (k := 0) h hd hs M
  have g2 := h1 M
  have g3 := h2 M
  have g4 := is_so_ok hW hb hk hG h (n + 6) M.length (M ++ [.dct kvs]) at_last (by omega)
  simp [f_holds, g1, g2, g3, g4]
/-! ### the opposite -/
theorem wv_neg {c : Int} {f G : Str → Int} : wv (-c - 1) (fun n => -f n) G = -wv c f G - 1 := by
  unfold wv
  have e : (NL.map fun n => -f n * G n) = NL.map fun n => (f n * G n) * (-1) := by
    apply List.map_congr_left
    intro n _
    rw [Int.neg_mul, Int.mul_neg, Int.mul_one]
  rw [e, sum_mul]
  omega
theorem all_not : ∀ l : List Bool, (l.map (!·)).all id = !(l.any id)
  | [] => rfl
  | b :: r => by rw [List.map_cons, List.all_cons, List.any_cons, all_not r]; cases b <;> rfl
theorem any_not : ∀ l : List Bool, (l.map (!·)).any id = !(l.all id)
  | [] => rfl
  | b :: r => by rw [List.map_cons, List.all_cons, List.any_cons, any_not r]; cases b <;> rfl
theorem opp_hld {G : Str → Int} (h : F.Ok b) : F.opp.hld G = !F.hld G := by
  induction h with
  | @fact c f s =>
    rw [Fm.opp, Fm.hld, Fm.hld, wv_neg]
    by_cases h : 0 ≤ wv c f G
    · rw [decide_eq_true h, decide_eq_false (by omega)]; rfl
    · rw [decide_eq_false h, decide_eq_true (by omega)]; rfl
  | yes => rfl
  | no => rfl
  | @nd a ps h1 h2 ih =>
    have e : (ps.map Fm.opp).map (Fm.hld G) = (ps.map (Fm.hld G)).map (!·) := by
      rw [List.map_map, List.map_map]
      exact List.map_congr_left fun p hp => ih p hp
    rw [Fm.opp, Fm.hld, Fm.hld, opps_map, alls_map, anys_map, alls_map, anys_map, e]
    cases a
    · simp only [Bool.not_false, if_true]
      rw [all_not]; rfl
    · simp only [Bool.not_true, if_true]
      rw [any_not]; rfl
theorem opp_ok (h : F.Ok b) : F.opp.Ok (b + 1) := by
  induction h with
  | @fact c f s =>
    rw [Fm.opp]
    refine .fact ⟨?_, fun n hn => ?_⟩
    · have := s.c
      have e := Nat.two_pow_pos b
      rw [Nat.pow_succ]; omega
    · have := s.f n hn
      show (-f n).natAbs < _
      rw [Nat.pow_succ]; omega
  | yes => exact .no
  | no => exact .yes
  | @nd a ps h1 h2 ih =>
    rw [Fm.opp, opps_map]
    refine .nd (by rw [List.length_map]; exact h1) fun p hp => ?_
    obtain ⟨q, hq, rfl⟩ := List.mem_map.mp hp
    exact ih q hq
mutual
theorem opp_dp : ∀ F : Fm, F.opp.dp = F.dp
  | .fact _ _ => rfl
  | .yes => rfl
  | .no => rfl
  | .nd a ps => by rw [Fm.opp, Fm.dp, Fm.dp, opps_dp ps]
theorem opps_dp : ∀ ps : List Fm, Fm.dps (Fm.opps ps) = Fm.dps ps
  | [] => rfl
  | p :: r => by rw [Fm.opps, Fm.dps, Fm.dps, opp_dp p, opps_dp r]
end
mutual
theorem opp_sz : ∀ F : Fm, F.opp.sz = F.sz
  | .fact _ _ => rfl
  | .yes => rfl
  | .no => rfl
  | .nd a ps => by rw [Fm.opp, Fm.sz, Fm.sz, opps_sz ps]
theorem opps_sz : ∀ ps : List Fm, Fm.szs (Fm.opps ps) = Fm.szs ps
  | [] => rfl
  | p :: r => by rw [Fm.opps, Fm.szs, Fm.szs, opp_sz p, opps_sz r]
end
theorem row_zero : rowL (fun _ => 0) = [] := by decide +kernel
theorem below_ok {n : Nat} {c : Int} {f : Str → Int} (s : Sm b c f) (hb : b ≤ 900000) : Calc (callN T (n + 3)) "below_nought" [fmD c f] (fmD (-c - 1) fun n => -f n) := by
  refine own_call (fn := f_below_nought) (by kernel_rfl) rfl rfl fm_pure fun M => ⟨[], ?_⟩
  rw [List.append_nil]
  have h0 : Sm 1 (-1) (fun _ => 0) := ⟨by decide, fun _ _ => by decide⟩
  have h1 := sum2 (n := n) (s.ok (a := -1) (k := 1) hb (by decide) (by decide)) (h0.ok (a := 1) (k := 1) (by decide) (by decide) (by decide)) M
  have e0 : fmD (-1) (fun _ => 0) = .tup [.int (-1), .tup []] := by
    unfold fmD prsD
    rw [row_zero]; rfl
  have e1 : c * -1 + -1 * 1 = -c - 1 := by omega
  have e2 : (fun n => f n * -1 + 0 * 1) = fun n => -f n := by funext n; omega
  rw [e0, e1, e2] at h1
  simp [f_below_nought, h1]
theorem turned_ok (hb : b ≤ 900000) (h : F.Ok b) (hs : F.sz ≤ 4000) : ∀ m : Nat, F.dp + 3 ≤ m → Calc (callN T m) "turned_round" [F.d] F.opp.d := by
  obtain ⟨w1, w2, w3, w4, w5, w6, w7, w8, w9⟩ := wd_ne
  induction h with
  | @fact c f s =>
    intro m hm
    obtain ⟨m', rfl⟩ : ∃ m', m = m' + 4 := ⟨m - 4, by rw [Fm.dp] at hm; omega⟩
    refine own_call (fn := f_turned_round) (by kernel_rfl) rfl rfl (opp_ok (.fact s)).pure fun M => ⟨[], ?_⟩
    rw [List.append_nil, Fm.opp, Fm.d, Fm.d]
    have h1 := below_ok (n := m') s hb M
    simp [f_turned_round, h1, w1]
  | yes =>
    intro m hm
    obtain ⟨m', rfl⟩ : ∃ m', m = m' + 1 := ⟨m - 1, by omega⟩
    refine own_call (fn := f_turned_round) (by kernel_rfl) rfl rfl rfl fun M => ⟨[], ?_⟩
    obtain ⟨i1, i2, i3, i4, i5, i6, i7⟩ := in_yn (M := M)
    rw [List.append_nil, Fm.opp, Fm.d, Fm.d]
    simp [f_turned_round, w8, i2, w4]
  | no =>
    intro m hm
    obtain ⟨m', rfl⟩ : ∃ m', m = m' + 1 := ⟨m - 1, by omega⟩
    refine own_call (fn := f_turned_round) (by kernel_rfl) rfl rfl rfl fun M => ⟨[], ?_⟩
    obtain ⟨i1, i2, i3, i4, i5, i6, i7⟩ := in_yn (M := M)
    rw [List.append_nil, Fm.opp, Fm.d, Fm.d]
    simp [f_turned_round, w9, i3, w5]
  | @nd e ps h1 h2 ih =>
    intro m hm
    rw [Fm.dp] at hm
    rw [Fm.sz] at hs
    obtain ⟨m', rfl⟩ : ∃ m', m = m' + 1 := ⟨m - 1, by omega⟩
    refine own_call (fn := f_turned_round) (by kernel_rfl) rfl rfl (opp_ok (.nd h1 h2)).pure fun M => ⟨[], ?_⟩
    obtain ⟨i1, i2, i3, i4, i5, i6, i7⟩ := in_yn (M := M)
    rw [List.append_nil, Fm.opp, Fm.d, Fm.d, ds_map, ds_map, opps_map, List.map_map]
    have g1 : compGo (.n 2) (fun _ M => .ok true M) (fun env M => evE (callN T m') f_turned_round_c0 env M) [some (.tup (.str (wrd e) :: ps.map Fm.d)), some (.str (wrd e)), none] (ps.map Fm.d) M = .ok (ps.map fun p => p.opp.d) M := comp_fm fun p hp => by
      have g := ih p hp (by have : p.sz ≤ Fm.szs ps := sz_mem hp; omega) m' (by have : p.dp ≤ Fm.dps ps := dps_le hp; omega) M
      simp [f_turned_round_c0, g]
    have hl : fitLen ((ps.map fun p => p.opp.d).length + 1) = true := decide_eq_true (by rw [List.length_map]; have := szs_len ps; omega)
    have g2 : ∀ x : D, starD x (.lst (ps.map fun p => p.opp.d)) M = .ok (.tup (x :: ps.map fun p => p.opp.d)) M := fun x => st_lst hl
    cases e
    · simp [wrd] at g1
      simp [f_turned_round, wrd, w3, i5, w7, slcD, cut1]
      rw [g1]
      simp [g2]
    · simp [wrd] at g1
      simp [f_turned_round, wrd, w2, i4, w6, slcD, cut1]
      rw [g1]
      simp [g2]
theorem opposite_ok {n : Nat} (h : F.Ok b) (hd : F.dp ≤ 40) (hs : F.sz ≤ 4000) (hn : F.dp ≤ n + 3) (hb : b ≤ 900000) : Calc (callN T (n + 7)) "opposite" [F.d] F.opp.d := by
  refine own_call (fn := f_opposite) (by kernel_rfl) rfl rfl (opp_ok h).pure fun M => ⟨[], ?_⟩
  rw [List.append_nil]
  have g1 := checked_formula_ok (n := n) (k := 0) h hd hs M
  have g2 := turned_ok hb h hs (n + 6) (by omega) M
  simp [f_opposite, g1, g2]
/-! ### the law's own -/
theorem law_holds_ok {S : Str → Bool} {g : Str → Int} {k : Nat} (hb : b ≤ 900000) (hk : k ≤ 90000) (hG : ∀ n ∈ NL, (gW S g n).natAbs < 2 ^ k) (h : F.Ok b) : ∀ m : Nat, F.dp + 1 ≤ m → Calc (callN T m) "_law_holds" [F.d, wtD S g] (.bl (F.hld (gW S g))) := by
  obtain ⟨w1, w2, w3, w4, w5, w6, w7, w8, w9⟩ := wd_ne
  induction h with
  | @fact c f s =>
    intro m hm
    obtain ⟨m', rfl⟩ : ∃ m', m = m' + 2 := ⟨m - 2, by rw [Fm.dp] at hm; omega⟩
    refine own_call (fn := f_law_holds) (by kernel_rfl) rfl rfl rfl fun M => ⟨[], ?_⟩
    rw [List.append_nil, Fm.d, Fm.hld]
    have h1 := law_worth_ok (n := m') (c := c) (f := f) (S := S) (g := g) (fun n hn => mul1 (s.f n hn) hb (hG n hn) hk) M
    simp [f_law_holds, h1, w1]
  | yes =>
    intro m hm
    obtain ⟨m', rfl⟩ : ∃ m', m = m' + 1 := ⟨m - 1, by omega⟩
    refine own_call (fn := f_law_holds) (by kernel_rfl) rfl rfl rfl fun M => ⟨[], ?_⟩
    obtain ⟨i1, i2, i3, i4, i5, i6, i7⟩ := in_yn (M := M)
    rw [List.append_nil, Fm.d, Fm.hld]
    simp [f_law_holds, w4, w8, i2]
  | no =>
    intro m hm
    obtain ⟨m', rfl⟩ : ∃ m', m = m' + 1 := ⟨m - 1, by omega⟩
    refine own_call (fn := f_law_holds) (by kernel_rfl) rfl rfl rfl fun M => ⟨[], ?_⟩
    obtain ⟨i1, i2, i3, i4, i5, i6, i7⟩ := in_yn (M := M)
    rw [List.append_nil, Fm.d, Fm.hld]
    simp [f_law_holds, w5, w9, i3]
  | @nd e ps h1 h2 ih =>
    intro m hm
    rw [Fm.dp] at hm
    obtain ⟨m', rfl⟩ : ∃ m', m = m' + 1 := ⟨m - 1, by omega⟩
    refine own_call (fn := f_law_holds) (by kernel_rfl) rfl rfl rfl fun M => ⟨[], ?_⟩
    obtain ⟨i1, i2, i3, i4, i5, i6, i7⟩ := in_yn (M := M)
    rw [List.append_nil, Fm.d, Fm.hld, ds_map, alls_map, anys_map]
    have g1 : compGo (.n 3) (fun _ M => .ok true M) (fun env M => evE (callN T m') f_law_holds_c0 env M) [some (.tup (.str (wrd e) :: ps.map Fm.d)), some (wtD S g), none, none] (ps.map Fm.d) M = .ok (ps.map fun p => .bl (p.hld (gW S g))) M := comp_fm fun p hp => by
      have g := ih p hp m' (by have : p.dp ≤ Fm.dps ps := dps_le hp; omega) M
      simp [f_law_holds_c0, g]
    have key : ∀ v : Bool, inD M (.bl v) (.lst (ps.map fun p => .bl (p.hld (gW S g)))) = some ((ps.map (Fm.hld (gW S g))).any fun z => z == v) := by
      intro v
      have e1 : ((ps.map fun p => D.bl (p.hld (gW S g))).all D.flat) = true := by
        rw [List.all_eq_true]
        intro d hd
        obtain ⟨p, _, rfl⟩ := List.mem_map.mp hd
        rfl
      show (if ((D.bl v).flat && (ps.map fun p => D.bl (p.hld (gW S g))).all D.flat) = true then some _ else _) = _
      rw [e1, if_pos (by cases v <;> rfl), List.any_map, List.any_map]
      rfl
    have k1 : ((ps.map (Fm.hld (gW S g))).any fun z => z == true) = (ps.map (Fm.hld (gW S g))).any id := by
      congr 1; funext z; cases z <;> rfl
    have k2 : (!((ps.map (Fm.hld (gW S g))).any fun z => z == false)) = (ps.map (Fm.hld (gW S g))).all id := by
      generalize ps.map (Fm.hld (gW S g)) = l
      induction l with
      | nil => rfl
      | cons z r ihr => rw [List.any_cons, List.all_cons, ← ihr]; cases z <;> rfl
    have keyT := key true
    have keyF := key false
    rw [k1] at keyT
    generalize (ps.map (Fm.hld (gW S g))).any id = vt at keyT
    generalize ((ps.map (Fm.hld (gW S g))).any fun z => z == false) = vf at keyF k2
    rw [← k2]
    clear key k1 k2
    cases e
    · simp [wrd] at g1
      simp [f_law_holds, wrd, w3, i5, w7, slcD, cut1]
      rw [g1]
      simp [keyT, w7]
    · simp [wrd] at g1
      simp [f_law_holds, wrd, w2, i4, w6, slcD, cut1]
      rw [g1]
      simp [keyF, w6]
theorem row_neg {f : Str → Int} : rowL (fun n => -f n) = rowL f := by
  unfold rowL
  apply List.filter_congr
  intro n _
  show (-f n != 0) = (f n != 0)
  by_cases e : f n = 0
  · rw [e]; rfl
  · have e2 : (f n != 0) = true := by simpa using e
    have e3 : (-f n != 0) = true := bne_iff_ne.mpr (by omega)
    rw [e2, e3]
end
end K06T
end Z


/-! K06H2: formulas drawn; what is none. -/
namespace Z
namespace K06T
open PySem L2
/-- .. of the law's own names alone -/
inductive Fm.Own : Fm → Prop where
  | fact {c : Int} {f : Str → Int} : (∀ m ∈ NL, m ∉ NW → f m = 0) → Fm.Own (.fact c f)
  | yes : Fm.Own .yes
  | no : Fm.Own .no
  | nd {a : Bool} {ps : List Fm} : (∀ p ∈ ps, Fm.Own p) → Fm.Own (.nd a ps)
/-- a formula as the law draws it, j levels ahead -/
structure GF (j : Nat) (F : Fm) : Prop where
  ok : F.Ok 100
  dp : F.dp ≤ j + 1
  sz : F.sz ≤ 4 ^ j
  own : F.Own
theorem fms_of {P : Fm → Prop} : ∀ {items ys : List D}, F2 (fun _ y => ∃ F : Fm, y = F.d ∧ P F) items ys → ∃ ps : List Fm, ys = ps.map Fm.d ∧ (∀ p ∈ ps, P p) ∧ ps.length = items.length
  | _, _, .nil => ⟨[], rfl, fun _ h => (nomatch h), rfl⟩
  | _, _, .cons ⟨F, e, h⟩ r => by
    obtain ⟨ps, h1, h2, h3⟩ := fms_of r
    refine ⟨F :: ps, by rw [e, h1]; rfl, fun p hp => ?_, by simp [h3]⟩
    rcases List.mem_cons.mp hp with rfl | hp
    · exact h
    · exact h2 p hp
theorem law_formula_ok {Rs : Sto} {n : Nat} : ∀ (j : Nat) (deep : Int) (M : Sto), deep + j = 3 → Deal Rs M → ∃ F M', callN T (n + 5 + j) "_law_formula" [.loc 1, .int deep] M = .ok F.d M' ∧ GF j F ∧ Deal Rs M'
  | j, deep, M, hj, d => by
    obtain ⟨r, M1, a1, d1, r0, r1⟩ := law_any_ok (n := n + j + 3) (bound := 8) d (by decide) (by decide +kernel)
    have fuel : n + 5 + j = (n + j + 4) + 1 := by omega
    by_cases hc : (2 : Int) < deep ∨ r < 3
    · obtain ⟨c, f, M2, b1, fd, d2⟩ := law_form_ok (n := n + j) d1
      refine ⟨.fact c f, M2, ?_, ⟨.fact fd.sm, by rw [Fm.dp]; omega, by rw [Fm.sz]; exact Nat.pow_pos (by decide), .fact fd.own⟩, d2⟩
      rw [fuel, Fm.d]
      refine free_call (fn := f_law_formula) (by kernel_rfl) rfl rfl ?_
      rcases hc with hc | hc
      · simp [f_law_formula, a1, b1, hc]
      · by_cases h2 : (2 : Int) < deep <;> simp [f_law_formula, a1, b1, hc, h2]
    · have c1 : ¬ (2 : Int) < deep := fun h => hc (.inl h)
      have c2 : ¬ r < 3 := fun h => hc (.inr h)
      by_cases h3 : r = 3
      · subst h3
        obtain ⟨x, hx, M2, b1, d2⟩ := law_of_ok (n := n + j + 2) (xs := [.tup [.str "yes"], .tup [.str "no"]]) d1 (by decide) (by decide)
        have fin : ∀ F : Fm, GF j F → F.d = x → ∃ F M', callN T (n + 5 + j) "_law_formula" [.loc 1, .int deep] M = .ok F.d M' ∧ GF j F ∧ Deal Rs M' := by
          rintro F hF rfl
          refine ⟨F, M2, ?_, hF, d2⟩
          rw [fuel]
          refine free_call (fn := f_law_formula) (by kernel_rfl) rfl rfl ?_
          simp [f_law_formula, a1, c1, b1]
        have h4 : 1 ≤ 4 ^ j := Nat.pow_pos (by decide)
        simp only [List.mem_cons, List.not_mem_nil, or_false] at hx
        rcases hx with h | h
        · exact fin .yes ⟨.yes, by rw [Fm.dp]; omega, by rw [Fm.sz]; exact h4, .yes⟩ (by rw [h]; rfl)
        · exact fin .no ⟨.no, by rw [Fm.dp]; omega, by rw [Fm.sz]; exact h4, .no⟩ (by rw [h]; rfl)
      · obtain ⟨j', rfl⟩ : ∃ j', j = j' + 1 := ⟨j - 1, by omega⟩
        obtain ⟨x, hx, M2, b1, d2⟩ := law_of_ok (n := n + j' + 1 + 2) (xs := [.str "and", .str "or"]) d1 (by decide) (by decide)
        obtain ⟨a, rfl⟩ : ∃ a : Bool, x = .str (wrd a) := by
          simp only [List.mem_cons, List.not_mem_nil, or_false] at hx
          rcases hx with h | h
          · exact ⟨true, h⟩
          · exact ⟨false, h⟩
        obtain ⟨t, M3, e1, d3, t0, t1⟩ := law_any_ok (n := n + j' + 1 + 3) (bound := 2) d2 (by decide) (by decide +kernel)
        have ht : fitLen (2 + t).natAbs = true := decide_eq_true (by omega)
        obtain ⟨ys, M4, g1, d4, g2⟩ := comp_draw (t := .n 4) (el := fun env M => evE (callN T (n + j' + 1 + 4)) f_law_formula_c0 env M) (env := [some (.loc 1), some (.int deep), some (.int r), some (.str (wrd a)), none]) (R := fun _ y => ∃ F : Fm, y = F.d ∧ GF j' F) (items := rngD 0 (2 + t).toNat) d3 (by
          intro z _ M dl
          obtain ⟨F, M', u1, u2, u3⟩ := law_formula_ok (n := n) j' (deep + 1) M (by omega) dl
          refine ⟨_, F.d, M', rfl, ?_, u3, F, rfl, u2⟩
          have fuel2 : n + j' + 1 + 4 = n + 5 + j' := by omega
          rw [fuel2]
          simp [f_law_formula_c0, u1])
        obtain ⟨ps, p1, p2, p3⟩ := fms_of g2
        rw [rng_len] at p3
        subst p1
        have hl : ps.length = 2 ∨ ps.length = 3 := by omega
        have hcat := bn_catT (M := M4) (xs := [.str (wrd a)]) (ys := ps.map Fm.d) (decide_eq_true (by rw [List.length_map]; simp; omega))
        refine ⟨.nd a ps, M4, ?_, ⟨.nd (by omega) fun p hp => (p2 p hp).ok, ?_, ?_, .nd fun p hp => (p2 p hp).own⟩, d4⟩
        · rw [fuel, Fm.d, ds_map]
          refine free_call (fn := f_law_formula) (by kernel_rfl) rfl rfl ?_
          have fuel3 : n + (j' + 1) + 4 = n + j' + 1 + 4 := by omega
          have fuel4 : n + (j' + 1) + 3 = n + j' + 1 + 3 := by omega
          rw [fuel3]
          rw [fuel4] at a1
          simp [f_law_formula, a1, c1, c2, h3, b1, e1, ht]
          rw [g1]
          simp at hcat
          simp [hcat]
        · rw [Fm.dp]
          have : Fm.dps ps ≤ j' + 1 := dps_of fun p hp => (p2 p hp).dp
          omega
        · rw [Fm.sz]
          have h5 : Fm.szs ps ≤ ps.length * 4 ^ j' := szs_of fun p hp => (p2 p hp).sz
          have h6 : ps.length * 4 ^ j' ≤ 3 * 4 ^ j' := Nat.mul_le_mul_right _ (by omega)
          have h7 : 1 ≤ 4 ^ j' := Nat.pow_pos (by decide)
          rw [Nat.pow_succ]; omega
/-! ### what is no formula -/
theorem bad_formula {n : Nat} {d : D} {xs : List D} (h : Calc (callN T (n + 4)) "inner_formulas" [d] (.tup [.tup xs, .bl false])) (hf : D.fit 62 d = true) : Calc (callN T (n + 5)) "is_formula" [d] (.bl false) := by
  refine own_call (fn := f_is_formula) (by kernel_rfl) rfl rfl rfl fun M => ⟨[.lst []], ?_⟩
  have hfit : D.fits 63 [D.tup [d, .int 1]] = true := by
    show ((D.fit 62 d && (D.fit 62 (.int 1) && true)) && true) = true
    rw [hf]; rfl
  have heq := eq_loc (at_last (M := M) (o := .lst [D.tup [d, .int 1]])) hfit
  have h1 := md_pop (xs := []) (d := D.tup [d, .int 1]) (at_last (M := M) (o := .lst [D.tup [d, .int 1]]))
  rw [set_last] at h1
  have h2 := kd_pop (at_last (M := M) (o := .lst [D.tup [d, .int 1]]))
  have h3 := h (M ++ [.lst []])
  have e : whlN (fun env M => evE (callN T (n + 4)) f_is_formula_w0 env M) (fun env M => evSs (callN T (n + 4)) f_is_formula_b0 env M) 1 [some d, some (.loc M.length), some (.int 0), none, none, none, none, none] (M ++ [.lst [D.tup [d, .int 1]]]) = .ok (.ret (.bl false)) (M ++ [.lst []]) := by
    unfold whlN
    simp at heq
    simp [f_is_formula_w0, heq, f_is_formula_b0, h2, h1, h3]
  have e4 := whl_go (n := 1) (c := fun env M => evE (callN T (n + 4)) f_is_formula_w0 env M) (b := fun env M => evSs (callN T (n + 4)) f_is_formula_b0 env M) (by rw [e]; exact fun h => by cases h)
  rw [e] at e4
  simp [f_is_formula]
  rw [e4]
  simp
theorem checked_bad {n : Nat} {d : D} {k : Int} (h : Calc (callN T (n + 5)) "is_formula" [d] (.bl false)) : CalcX (callN T (n + 6)) "checked_formula" [d, .int k] "InvalidFormula" (.int k) := by
  refine own_exc (fn := f_checked_formula) (by kernel_rfl) rfl rfl rfl fun M => ⟨[some d, some (.int k)], [], ?_⟩
  rw [List.append_nil]
  have h1 := h M
  simp [f_checked_formula, h1]
theorem holds_bad {n : Nat} {d w : D} (h : Calc (callN T (n + 5)) "is_formula" [d] (.bl false)) : CalcX (callN T (n + 7)) "holds" [d, w] "InvalidFormula" (.int 0) := by
  refine own_exc (fn := f_holds) (by kernel_rfl) rfl rfl rfl fun M => ⟨[some d, some w], [], ?_⟩
  rw [List.append_nil]
  have h1 := checked_bad (k := 0) h M
  simp [f_holds, h1]
theorem opposite_bad {n : Nat} {d : D} (h : Calc (callN T (n + 5)) "is_formula" [d] (.bl false)) : CalcX (callN T (n + 7)) "opposite" [d] "InvalidFormula" (.int 0) := by
  refine own_exc (fn := f_opposite) (by kernel_rfl) rfl rfl rfl fun M => ⟨[some d], [], ?_⟩
  rw [List.append_nil]
  have h1 := checked_bad (k := 0) h M
  simp [f_opposite, h1]
theorem holds_badw {b n : Nat} {F : Fm} {w : D} (hF : F.Ok b) (hd : F.dp ≤ 40) (hs : F.sz ≤ 4000) (h : Calc (callN T (n + 5)) "are_worths" [w, .int 2000] (.bl false)) : CalcX (callN T (n + 7)) "holds" [F.d, w] "InvalidValue" (.int 1) := by
  have h2 : CalcX (callN T (n + 6)) "checked_worths" [w, .int 1] "InvalidValue" (.int 1) := by
    refine own_exc (fn := f_checked_worths) (by kernel_rfl) rfl rfl rfl fun M => ⟨[some w, some (.int 1)], [], ?_⟩
    rw [List.append_nil]
    have h1 := h M
    simp [f_checked_worths, h1]
  refine own_exc (fn := f_holds) (by kernel_rfl) rfl rfl rfl fun M => ⟨[some F.d, some w], [], ?_⟩
  rw [List.append_nil]
  have h1 := checked_formula_ok (n := n) (k := 0) hF hd hs M
  have h3 := h2 M
  simp [f_holds, h1, h3]
def Fm.its : Fm → List D
  | .fact c f => [.str "fact", fmD c f]
  | .yes => [.str "yes"]
  | .no => [.str "no"]
  | .nd a ps => .str (wrd a) :: Fm.ds ps
theorem its_eq : ∀ F : Fm, F.d = .tup F.its := by intro F; cases F <;> (rw [Fm.d]; rfl)
theorem form_zero {n : Nat} : Calc (callN T (n + 3)) "is_form" [.tup [.int 3, .tup [.tup [.str "x", .int 0]]]] (.bl false) := by
  refine own_call (fn := f_is_form) (by kernel_rfl) rfl rfl rfl fun M => ⟨[], ?_⟩
  rw [List.append_nil]
  have h1 := is_integer_ok (n := n + 1) (i := 3) M
  have h2 := worths_gen (n := n) (l := ["x"]) (g := fun _ => 0) (most := 200) (by simp) (fun x hx => NL_unk x (by rw [List.mem_singleton] at hx; subst hx; decide +kernel)) (by decide) M
  have e : prsD ["x"] (fun _ => 0) = [.tup [.str "x", .int 0]] := rfl
  rw [e] at h2
  have h3 : compGo (.n 1) (fun _ M => .ok true M) (fun env M => evE (callN T (n + 2)) f_is_form_c0 env M) [some (.tup [.int 3, .tup [.tup [.str "x", .int 0]]]), none] [.tup [.str "x", .int 0]] M = .ok [.bl false] M := by
    unfold compGo
    simp [f_is_form_c0]
    unfold compGo
    simp
  have h4 : biD .all false [.lst [.bl false]] M = .ok (.bl false) M := rfl
  simp [f_is_form, h1, h2]
  rw [h3]
  simp [h4]
def bads (F : Fm) : List D := [.non, .tup [.str "and", F.d], .lst F.its, .tup [.str "fact", .tup [.int 3, .tup [.tup [.str "x", .int 0]]]], .str "yes"]
theorem bads_ok {b n : Nat} {F : Fm} (hF : F.Ok b) (hd : F.dp ≤ 40) : ∀ d ∈ bads F, Calc (callN T (n + 5)) "is_formula" [d] (.bl false) := by
  obtain ⟨w1, w2, w3, w4, w5, w6, w7, w8, w9⟩ := wd_ne
  have fx : ∀ k, D.fit k (.str "and") = true ∧ D.fit k (.str "fact") = true ∧ D.fit k (.str "yes") = true ∧ D.fit k (.str "x") = true := fun k => ⟨str_fit (by decide +kernel), str_fit (by decide +kernel), str_fit (by decide +kernel), str_fit (by decide +kernel)⟩
  intro d hd'
  unfold bads at hd'
  simp only [List.mem_cons, List.not_mem_nil, or_false] at hd'
  rcases hd' with rfl | rfl | rfl | rfl | rfl
  · refine bad_formula (xs := []) (own_call (fn := f_inner_formulas) (by kernel_rfl) rfl rfl rfl fun M => ⟨[], ?_⟩) rfl
    rw [List.append_nil]
    simp [f_inner_formulas]
  · have hfit : ∀ k, 45 ≤ k → D.fit (k + 1) (.tup [.str "and", F.d]) = true := fun k hk => by
      show (D.fit k (.str "and") && (D.fit k F.d && true)) = true
      rw [(fx k).1, hF.fit k (by omega)]; rfl
    refine bad_formula (xs := [F.d]) (own_call (fn := f_inner_formulas) (by kernel_rfl) rfl rfl (by
      show ((F.d.pure && true) && _) = true
      rw [hF.pure]; rfl) fun M => ⟨[], ?_⟩) (hfit 61 (by decide))
    rw [List.append_nil]
    obtain ⟨i1, i2, i3, i4, i5, i6, i7⟩ := in_yn (M := M)
    have he := eq_unit (M := M) (hfit 63 (by decide))
    simp [f_inner_formulas, he, i4, w2, i6, slcD, cut1]
  · have hfit : D.fit 62 (.lst F.its) = true := by
      have := hF.fit 62 (by omega)
      rw [its_eq] at this
      exact this
    refine bad_formula (xs := []) (own_call (fn := f_inner_formulas) (by kernel_rfl) rfl rfl rfl fun M => ⟨[], ?_⟩) hfit
    rw [List.append_nil]
    simp [f_inner_formulas]
  · have hfit : ∀ k, D.fit (k + 4) (.tup [.str "fact", .tup [.int 3, .tup [.tup [.str "x", .int 0]]]]) = true := fun k => by
      show (D.fit (k + 3) (.str "fact") && ((D.fit (k + 2) (.int 3) && (((D.fit k (.str "x") && (D.fit k (.int 0) && true)) && true) && true)) && true)) = true
      rw [(fx _).2.1, (fx _).2.2.2, int_fit, int_fit]; rfl
    refine bad_formula (xs := []) (own_call (fn := f_inner_formulas) (by kernel_rfl) rfl rfl rfl fun M => ⟨[], ?_⟩) (hfit 58)
    rw [List.append_nil]
    obtain ⟨i1, i2, i3, i4, i5, i6, i7⟩ := in_yn (M := M)
    have he := eq_unit (M := M) (hfit 60)
    have hz := form_zero (n := n) M
    simp [f_inner_formulas, he, i1, w1, hz]
  · refine bad_formula (xs := []) (own_call (fn := f_inner_formulas) (by kernel_rfl) rfl rfl rfl fun M => ⟨[], ?_⟩) (fx 62).2.2.1
    rw [List.append_nil]
    simp [f_inner_formulas]
end K06T
end Z


/-! K06S: the law's own sums of forms. -/
namespace Z
namespace K06T
open PySem L2
theorem dict_row {l : List Str} {g : Str → Int} {m : Bool} {M : Sto} (nd : l.Nodup) : biD .dict m [.tup (prsD l g)] M = .ok (.loc M.length) (M ++ [.dct (wd l g)]) := by
  rw [bd_dict (pairs_prs _), fold_wd _ _ nd (fun _ _ h => by simp at h)]
  rfl
theorem any_get {kvs : List (Key × D)} {k : Key} : (kvs.any fun kv => decide (kv.1 = k)) = (getK kvs k).isSome := by
  unfold getK
  induction kvs with
  | nil => rfl
  | cons kv r ih =>
    rw [List.any_cons, List.find?_cons]
    by_cases e : kv.1 = k
    · simp [e]
    · simp [e] at ih ⊢
      exact ih
end K06T
end Z


/-! K06P: formulas made. -/
namespace Z
namespace K06T
open PySem L2
/-! ### a form put for a name -/
mutual
def Fm.put (x : Str) (c' : Int) (f' : Str → Int) : Fm → Fm
  | .fact c f => .fact (c + c' * f x) (putF f f' x)
  | .yes => .yes
  | .no => .no
  | .nd a ps => .nd a (Fm.puts x c' f' ps)
def Fm.puts (x : Str) (c' : Int) (f' : Str → Int) : List Fm → List Fm
  | [] => []
  | p :: r => Fm.put x c' f' p :: Fm.puts x c' f' r
end
theorem puts_map {x : Str} {c' : Int} {f' : Str → Int} : ∀ ps : List Fm, Fm.puts x c' f' ps = ps.map (Fm.put x c' f')
  | [] => rfl
  | p :: r => by rw [Fm.puts, puts_map r]; rfl
section
variable {b b' n : Nat} {F : Fm} {x : Str} {c' : Int} {f' : Str → Int}
mutual
theorem put_dp : ∀ F : Fm, (F.put x c' f').dp = F.dp
  | .fact _ _ => rfl
  | .yes => rfl
  | .no => rfl
  | .nd a ps => by rw [Fm.put, Fm.dp, Fm.dp, puts_dp ps]
theorem puts_dp : ∀ ps : List Fm, Fm.dps (Fm.puts x c' f' ps) = Fm.dps ps
  | [] => rfl
  | p :: r => by rw [Fm.puts, Fm.dps, Fm.dps, put_dp p, puts_dp r]
end
mutual
theorem put_sz : ∀ F : Fm, (F.put x c' f').sz = F.sz
  | .fact _ _ => rfl
  | .yes => rfl
  | .no => rfl
  | .nd a ps => by rw [Fm.put, Fm.sz, Fm.sz, puts_sz ps]
theorem puts_sz : ∀ ps : List Fm, Fm.szs (Fm.puts x c' f' ps) = Fm.szs ps
  | [] => rfl
  | p :: r => by rw [Fm.puts, Fm.szs, Fm.szs, put_sz p, puts_sz r]
end
theorem put_ok' (hx : x ∈ NL) (h : F.Ok b) (s' : Sm b' c' f') : (F.put x c' f').Ok (b' + b + 1) := by
  induction h with
  | @fact c f s => rw [Fm.put]; exact .fact (Sm.put hx s s')
  | yes => exact .yes
  | no => exact .no
  | @nd a ps h1 h2 ih =>
    rw [Fm.put, puts_map]
    refine .nd (by rw [List.length_map]; exact h1) fun p hp => ?_
    obtain ⟨q, hq, rfl⟩ := List.mem_map.mp hp
    exact ih q hq
theorem put_hld {G : Str → Int} (hx : x ∈ NL) (h : F.Ok b) : (F.put x c' f').hld G = F.hld fun n => if n = x then wv c' f' G else G n := by
  induction h with
  | @fact c f s => rw [Fm.put, Fm.hld, Fm.hld, wv_put hx]
  | yes => rfl
  | no => rfl
  | @nd a ps h1 h2 ih =>
    have e : (ps.map (Fm.put x c' f')).map (Fm.hld G) = ps.map (Fm.hld fun n => if n = x then wv c' f' G else G n) := by
      rw [List.map_map]
      exact List.map_congr_left fun p hp => ih p hp
    rw [Fm.put, Fm.hld, Fm.hld, puts_map, alls_map, anys_map, alls_map, anys_map, e]
theorem hld_congr {G G' : Str → Int} (h : F.Ok b) (e : ∀ n ∈ NL, G n = G' n) : F.hld G = F.hld G' := by
  induction h with
  | @fact c f s => rw [Fm.hld, Fm.hld, wv_congr e]
  | yes => rfl
  | no => rfl
  | @nd a ps h1 h2 ih => rw [Fm.hld, Fm.hld, alls_map, anys_map, alls_map, anys_map, List.map_congr_left fun p hp => ih p hp]
theorem with_ok (hx : x ∈ NL) (h : F.Ok b) (hb : b ≤ 90000) (s' : Sm b' c' f') (hb' : b' ≤ 900000) (hs : F.sz ≤ 4000) : ∀ m : Nat, F.dp + 3 ≤ m → Calc (callN T m) "with_form" [F.d, .str x, fmD c' f'] (F.put x c' f').d := by
  obtain ⟨w1, w2, w3, w4, w5, w6, w7, w8, w9⟩ := wd_ne
  induction h with
  | @fact c f s =>
    intro m hm
    obtain ⟨m', rfl⟩ : ∃ m', m = m' + 4 := ⟨m - 4, by rw [Fm.dp] at hm; omega⟩
    refine own_call (fn := f_with_form) (by kernel_rfl) rfl rfl (put_ok' hx (.fact s) s').pure fun M => ⟨[], ?_⟩
    rw [List.append_nil, Fm.put, Fm.d, Fm.d]
    have h1 := exchanged_ok (n := m') hx s s' hb hb' M
    simp [f_with_form, h1, w1]
  | yes =>
    intro m hm
    obtain ⟨m', rfl⟩ : ∃ m', m = m' + 1 := ⟨m - 1, by omega⟩
    refine own_call (fn := f_with_form) (by kernel_rfl) rfl rfl rfl fun M => ⟨[], ?_⟩
    obtain ⟨i1, i2, i3, i4, i5, i6, i7⟩ := in_yn (M := M)
    rw [List.append_nil, Fm.put, Fm.d]
    simp [f_with_form, w8, i2]
  | no =>
    intro m hm
    obtain ⟨m', rfl⟩ : ∃ m', m = m' + 1 := ⟨m - 1, by omega⟩
    refine own_call (fn := f_with_form) (by kernel_rfl) rfl rfl rfl fun M => ⟨[], ?_⟩
    obtain ⟨i1, i2, i3, i4, i5, i6, i7⟩ := in_yn (M := M)
    rw [List.append_nil, Fm.put, Fm.d]
    simp [f_with_form, w9, i3]
  | @nd e ps h1 h2 ih =>
    intro m hm
    rw [Fm.dp] at hm
    rw [Fm.sz] at hs
    obtain ⟨m', rfl⟩ : ∃ m', m = m' + 1 := ⟨m - 1, by omega⟩
    refine own_call (fn := f_with_form) (by kernel_rfl) rfl rfl (put_ok' hx (.nd h1 h2) s').pure fun M => ⟨[], ?_⟩
    obtain ⟨i1, i2, i3, i4, i5, i6, i7⟩ := in_yn (M := M)
    rw [List.append_nil, Fm.put, Fm.d, Fm.d, ds_map, ds_map, puts_map, List.map_map]
    have g1 : compGo (.n 3) (fun _ M => .ok true M) (fun env M => evE (callN T m') f_with_form_c0 env M) [some (.tup (.str (wrd e) :: ps.map Fm.d)), some (.str x), some (fmD c' f'), none] (ps.map Fm.d) M = .ok (ps.map fun p => (p.put x c' f').d) M := comp_fm fun p hp => by
      have g := ih p hp (by have : p.sz ≤ Fm.szs ps := sz_mem hp; omega) m' (by have : p.dp ≤ Fm.dps ps := dps_le hp; omega) M
      simp [f_with_form_c0, g]
    have hl : fitLen ((ps.map fun p => (p.put x c' f').d).length + 1) = true := decide_eq_true (by rw [List.length_map]; have := szs_len ps; omega)
    have g2 : ∀ y : D, starD y (.lst (ps.map fun p => (p.put x c' f').d)) M = .ok (.tup (y :: ps.map fun p => (p.put x c' f').d)) M := fun y => st_lst hl
    cases e
    · simp [wrd] at g1
      simp [f_with_form, wrd, w3, i5, slcD, cut1]
      rw [g1]
      simp [g2]
    · simp [wrd] at g1
      simp [f_with_form, wrd, w2, i4, slcD, cut1]
      rw [g1]
      simp [g2]
theorem put_in_ok (hx : x ∈ NL) (h : F.Ok b) (hb : b ≤ 90000) (s' : Sm b' c' f') (hb' : b' ≤ 900000) (hd : F.dp ≤ 40) (hs : F.sz ≤ 4000) (hn : F.dp ≤ n + 3) : Calc (callN T (n + 7)) "put_in" [F.d, .str x, fmD c' f'] (F.put x c' f').d := by
  have o1 := put_ok' hx h s'
  refine own_call (fn := f_put_in) (by kernel_rfl) rfl rfl o1.pure fun M => ⟨[], ?_⟩
  rw [List.append_nil]
  have g1 := checked_formula_ok (n := n) (k := 0) h hd hs M
  have g2 := is_unknown_ok (n := n + 5) hx M
  have g3 := checked_form_ok (n := n + 2) (c := c') (f := f') (k := 2) M
  have g4 := with_ok hx h hb s' hb' hs (n + 6) (by omega) M
  have g5 := checked_formula_ok (n := n) (k := 0) o1 (by rw [put_dp]; exact hd) (by rw [put_sz]; exact hs) M
  simp [f_put_in, g1, g2, g3, g4, g5]
theorem cut01 {d : D} {xs : List D} : cut (d :: xs) none (some 1) = [d] := cut_to (k := 1)
theorem cut1n {d : D} : cut [d] (some 1) none = [] := cut_from (k := 1)
end
/-! ### facts of two forms -/
section
variable {b n : Nat} {c1 c2 : Int} {f1 f2 : Str → Int}
def tL (c1 : Int) (f1 : Str → Int) (c2 : Int) (f2 : Str → Int) : List Term := [⟨c1, f1, 1⟩, ⟨c2, f2, -1⟩]
def tS (c1 : Int) (f1 : Str → Int) (c2 : Int) (f2 : Str → Int) : List Term := [⟨c2, f2, 1⟩, ⟨c1, f1, -1⟩, ⟨-1, fun _ => 0, 1⟩]
def leF (c1 : Int) (f1 : Str → Int) (c2 : Int) (f2 : Str → Int) : Fm := .fact (sumC (tL c1 f1 c2 f2)) (sumF (tL c1 f1 c2 f2))
def ltF (c1 : Int) (f1 : Str → Int) (c2 : Int) (f2 : Str → Int) : Fm := .fact (sumC (tS c1 f1 c2 f2)) (sumF (tS c1 f1 c2 f2))
theorem fm_m1 : D.tup [.int (-1), .tup []] = fmD (-1) fun _ => 0 := by
  unfold fmD prsD
  rw [row_zero]; rfl
theorem fm_const {i : Int} : D.tup [.int i, .tup []] = fmD i fun _ => 0 := by
  unfold fmD prsD
  rw [row_zero]; rfl
theorem tL_ok (s1 : Sm b c1 f1) (s2 : Sm b c2 f2) (hb : b ≤ 900000) : ∀ t ∈ tL c1 f1 c2 f2, t.ok := by
  intro t ht
  simp only [tL, List.mem_cons, List.not_mem_nil, or_false] at ht
  rcases ht with rfl | rfl
  · exact s1.ok (a := 1) (k := 1) hb (by decide) (by decide)
  · exact s2.ok (a := -1) (k := 1) hb (by decide) (by decide)
theorem tS_ok (s1 : Sm b c1 f1) (s2 : Sm b c2 f2) (hb : b ≤ 900000) : ∀ t ∈ tS c1 f1 c2 f2, t.ok := by
  have h0 : Sm 1 (-1) (fun _ => 0) := ⟨by decide, fun _ _ => by decide⟩
  intro t ht
  simp only [tS, List.mem_cons, List.not_mem_nil, or_false] at ht
  rcases ht with rfl | rfl | rfl
  · exact s2.ok (a := 1) (k := 1) hb (by decide) (by decide)
  · exact s1.ok (a := -1) (k := 1) hb (by decide) (by decide)
  · exact h0.ok (a := 1) (k := 1) (by decide) (by decide) (by decide)
theorem tL_val : sumC (tL c1 f1 c2 f2) = c1 - c2 ∧ sumF (tL c1 f1 c2 f2) = fun n => f1 n - f2 n := by
  refine ⟨by simp [sumC, tL]; omega, ?_⟩
  funext n
  simp [sumF, tL]
  omega
theorem tS_val : sumC (tS c1 f1 c2 f2) = c2 - c1 - 1 ∧ sumF (tS c1 f1 c2 f2) = fun n => f2 n - f1 n := by
  refine ⟨by simp [sumC, tS]; omega, ?_⟩
  funext n
  simp [sumF, tS]
  omega
theorem wv_sub {G : Str → Int} {i : Int} : wv (c1 - c2 - i) (fun n => f1 n - f2 n) G = wv c1 f1 G - wv c2 f2 G - i := by
  unfold wv
  have e : (NL.map fun n => (f1 n - f2 n) * G n) = NL.map fun n => f1 n * G n + (f2 n * G n) * (-1) := by
    apply List.map_congr_left
    intro n _
    rw [Int.sub_mul]
    omega
  rw [e, sum_add, sum_mul]
  omega
theorem leF_hld {G : Str → Int} : (leF c1 f1 c2 f2).hld G = decide (wv c2 f2 G ≤ wv c1 f1 G) := by
  have h := wv_sub (c1 := c1) (c2 := c2) (f1 := f1) (f2 := f2) (G := G) (i := 0)
  rw [leF, Fm.hld, tL_val.1, tL_val.2, show c1 - c2 = c1 - c2 - 0 by omega, h, Bool.eq_iff_iff, decide_eq_true_eq, decide_eq_true_eq]
  omega
theorem ltF_hld {G : Str → Int} : (ltF c1 f1 c2 f2).hld G = decide (wv c1 f1 G < wv c2 f2 G) := by
  have h := wv_sub (c1 := c2) (c2 := c1) (f1 := f2) (f2 := f1) (G := G) (i := 1)
  rw [ltF, Fm.hld, tS_val.1, tS_val.2, h, Bool.eq_iff_iff, decide_eq_true_eq, decide_eq_true_eq]
  omega
theorem leF_ok (s1 : Sm b c1 f1) (s2 : Sm b c2 f2) : (leF c1 f1 c2 f2).Ok (b + 2) := by
  rw [leF, tL_val.1, tL_val.2]
  exact .fact ((⟨abs_sub s1.c s2.c, fun n hn => abs_sub (s1.f n hn) (s2.f n hn)⟩ : Sm (b + 1) _ _).up (by omega))
theorem ltF_ok (s1 : Sm b c1 f1) (s2 : Sm b c2 f2) : (ltF c1 f1 c2 f2).Ok (b + 2) := by
  rw [ltF, tS_val.1, tS_val.2]
  exact .fact ⟨abs_sub (abs_sub s2.c s1.c) (up (a := 1) (by decide) (by omega)), fun n hn => up (abs_sub (s2.f n hn) (s1.f n hn)) (by omega)⟩
end
end K06T
end Z


/-! K06J: all of some, one of some; things mixed. -/
namespace Z
namespace K06T
open PySem L2
def ynS (y : Bool) : Str := if y then "yes" else "no"
def ynF (y : Bool) : Fm := if y then .yes else .no
def Fm.isW (y : Bool) : Fm → Bool
  | .yes => y
  | .no => !y
  | _ => false
theorem ynF_d {y : Bool} : (ynF y).d = .tup [.str (ynS y)] := by cases y <;> rfl
theorem ynF_ok {b : Nat} {y : Bool} : (ynF y).Ok b := by
  cases y
  · exact .no
  · exact .yes
theorem yn_fit {y : Bool} {k : Nat} : D.fit (k + 1) (.tup [.str (ynS y)]) = true := by
  show (D.fit k (.str (ynS y)) && true) = true
  rw [str_fit (by cases y <;> decide +kernel)]; rfl
theorem isW_eqv {F : Fm} {y : Bool} : D.eqv F.d (.tup [.str (ynS y)]) = F.isW y := by
  cases F with
  | fact c f =>
    rw [Fm.d]
    show ((("fact" : Str) == ynS y) && (D.eqvs [fmD c f] [])) = false
    rw [show D.eqvs [fmD c f] [] = false from rfl, Bool.and_false]
  | yes => cases y <;> decide +kernel
  | no => cases y <;> decide +kernel
  | nd a ps =>
    rw [Fm.d]
    show ((wrd a == ynS y) && D.eqvs (Fm.ds ps) []) = false
    have : (wrd a == ynS y) = false := by cases a <;> cases y <;> decide +kernel
    rw [this]; rfl
section
variable {b n : Nat}
theorem eq_yn {M : Sto} {F : Fm} {y : Bool} (h : F.Ok b) (hd : F.dp ≤ 60) : eqD M F.d (.tup [.str (ynS y)]) = some (F.isW y) := by
  rw [its_eq]
  unfold eqD
  rw [if_neg (by simp [D.scal, D.flat])]
  show (if (D.fit 64 (.tup F.its) && D.fit 64 (.tup [.str (ynS y)])) = true then some (D.eqv (.tup F.its) (.tup [.str (ynS y)])) else none) = _
  rw [← its_eq, h.fit 64 (by omega), yn_fit, if_pos (by rfl), isW_eqv]
theorem in_fms {M : Sto} {ps : List Fm} {y : Bool} (h : ∀ p ∈ ps, p.Ok b ∧ p.dp ≤ 60) : inD M (.tup [.str (ynS y)]) (.lst (ps.map Fm.d)) = some (ps.any (Fm.isW y)) := by
  have e1 : ((D.tup [.str (ynS y)]).flat && (ps.map Fm.d).all D.flat) = false := by simp [D.flat]
  have e2 : D.fits 63 (ps.map Fm.d) = true := fits_of fun d hd => by
    obtain ⟨p, hp, rfl⟩ := List.mem_map.mp hd
    exact (h p hp).1.fit 63 (by have := (h p hp).2; omega)
  show (if ((D.tup [.str (ynS y)]).flat && (ps.map Fm.d).all D.flat) = true then some ((ps.map Fm.d).any fun z => D.eqv z (.tup [.str (ynS y)])) else if (D.fit 64 (.tup [.str (ynS y)]) && D.fits 63 (ps.map Fm.d)) = true then some ((ps.map Fm.d).any fun z => D.eqv z (.tup [.str (ynS y)])) else none) = _
  rw [e1, e2, yn_fit, if_neg (by decide)]
  rw [if_pos (by rfl), List.any_map]
  congr 1
  congr 1
  funext p
  exact isW_eqv
theorem eq_fms {M : Sto} {ps : List Fm} (h : ∀ p ∈ ps, p.Ok b ∧ p.dp ≤ 60) : eqD M (.lst (ps.map Fm.d)) (.lst []) = some ps.isEmpty := by
  have hf : D.fits 63 (ps.map Fm.d) = true := fits_of fun d hd => by
    obtain ⟨p, hp, rfl⟩ := List.mem_map.mp hd
    exact (h p hp).1.fit 63 (by have := (h p hp).2; omega)
  unfold eqD
  rw [if_neg (by simp [D.scal, D.flat])]
  show (if (D.fit 64 (.lst (ps.map Fm.d)) && D.fit 64 (.lst [])) = true then some (D.eqv (.lst (ps.map Fm.d)) (.lst [])) else none) = _
  have e1 : D.fit 64 (.lst (ps.map Fm.d)) = true := hf
  rw [e1, if_pos (by rfl)]
  cases ps <;> rfl
/-! ### joined -/
def restF (a : Bool) (ps : List Fm) : List Fm := ps.filter fun p => !p.isW a
def joinF (a : Bool) (ps : List Fm) : Fm := if (restF a ps).any (Fm.isW (!a)) = true then ynF (!a) else match restF a ps with
  | [] => ynF a
  | [p] => p
  | p :: q :: r => .nd a (p :: q :: r)
def allB (a : Bool) (l : List Bool) : Bool := if a then l.all id else l.any id
theorem rest_hld {a : Bool} {G : Str → Int} : ∀ ps : List Fm, allB a ((restF a ps).map (Fm.hld G)) = allB a (ps.map (Fm.hld G))
  | [] => rfl
  | p :: r => by
    have ih := rest_hld (a := a) (G := G) r
    unfold restF at ih ⊢
    rw [List.filter_cons]
    cases hp : p.isW a with
    | false =>
      simp only [Bool.not_false, if_true, List.map_cons]
      cases a
      · show (id (p.hld G) || _) = (id (p.hld G) || _)
        rw [show ((r.filter fun p => !p.isW false).map (Fm.hld G)).any id = (r.map (Fm.hld G)).any id from ih]
      · show (id (p.hld G) && _) = (id (p.hld G) && _)
        rw [show ((r.filter fun p => !p.isW true).map (Fm.hld G)).all id = (r.map (Fm.hld G)).all id from ih]
    | true =>
      simp only [Bool.not_true, Bool.false_eq_true, if_false, List.map_cons]
      have hv : p.hld G = a := by
        cases p <;> cases a <;> simp [Fm.isW] at hp <;> rfl
      rw [hv, ih]
      cases a <;> rfl
theorem isW_hld {p : Fm} {y : Bool} {G : Str → Int} (h : p.isW y = true) : p.hld G = y := by
  cases p <;> cases y <;> simp [Fm.isW] at h <;> rfl
theorem join_hld {a : Bool} {G : Str → Int} {ps : List Fm} : (joinF a ps).hld G = allB a (ps.map (Fm.hld G)) := by
  rw [← rest_hld]
  unfold joinF
  by_cases h : (restF a ps).any (Fm.isW (!a)) = true
  · rw [if_pos h]
    rw [List.any_eq_true] at h
    obtain ⟨p, hp, hw⟩ := h
    have hv := isW_hld (G := G) hw
    cases a
    · show true = ((restF false ps).map (Fm.hld G)).any id
      exact (List.any_eq_true.mpr ⟨_, List.mem_map_of_mem hp, hv⟩).symm
    · show false = ((restF true ps).map (Fm.hld G)).all id
      symm
      rw [List.all_eq_false]
      exact ⟨_, List.mem_map_of_mem hp, by rw [hv]; decide⟩
  · rw [if_neg h]
    generalize restF a ps = l
    match l with
    | [] => cases a <;> rfl
    | [p] => cases a <;> simp [allB]
    | p :: q :: r =>
      dsimp only
      rw [Fm.hld, alls_map, anys_map]; rfl
theorem join_ok {a : Bool} {ps : List Fm} {k s : Nat} (h : ∀ p ∈ ps, p.Ok b ∧ p.dp ≤ k ∧ p.sz ≤ s) (hs : 1 ≤ s) (hk : 1 ≤ k) : (joinF a ps).Ok b ∧ (joinF a ps).dp ≤ k + 1 ∧ (joinF a ps).sz ≤ ps.length * s + 1 := by
  have hr : ∀ p ∈ restF a ps, p.Ok b ∧ p.dp ≤ k ∧ p.sz ≤ s := fun p hp => h p (List.mem_filter.mp hp).1
  have hl : (restF a ps).length ≤ ps.length := List.length_filter_le _ _
  unfold joinF
  split
  · exact ⟨ynF_ok, by cases a <;> (show 1 ≤ k + 1; omega), by cases a <;> (show 1 ≤ _; omega)⟩
  · generalize restF a ps = l at hr hl
    match l, hr, hl with
    | [], _, _ => exact ⟨ynF_ok, by cases a <;> (show 1 ≤ k + 1; omega), by cases a <;> (show 1 ≤ _; omega)⟩
    | [p], hr, hl =>
      obtain ⟨h1, h2, h3⟩ := hr p (by simp)
      have h4 : 1 * s ≤ ps.length * s := Nat.mul_le_mul_right _ (by simpa using hl)
      exact ⟨h1, by dsimp only; omega, by dsimp only; omega⟩
    | p :: q :: r, hr, hl =>
      refine ⟨.nd (by simp) fun z hz => (hr z hz).1, ?_, ?_⟩
      · show Fm.dp (.nd a (p :: q :: r)) ≤ _
        rw [Fm.dp]
        have := dps_of (ps := p :: q :: r) (k := k) fun z hz => (hr z hz).2.1
        omega
      · show Fm.sz (.nd a (p :: q :: r)) ≤ _
        rw [Fm.sz]
        have := szs_of (ps := p :: q :: r) (k := s) fun z hz => (hr z hz).2.2
        have h4 : (p :: q :: r).length * s ≤ ps.length * s := Nat.mul_le_mul_right _ hl
        omega
theorem rest_comp {t : Nat} {k : En → Sto → Res Bool} {el : En → Sto → Res D} {env : En} {M : Sto} {a : Bool} {ps : List Fm} (hk : ∀ p ∈ ps, k (env.set t (some p.d)) M = .ok (!p.isW a) M) (he : ∀ p ∈ ps, el (env.set t (some p.d)) M = .ok p.d M) :
    compGo (.n t) k el env (ps.map Fm.d) M = .ok ((restF a ps).map Fm.d) M := by
  induction ps with
  | nil => rfl
  | cons p r ih =>
    have ih := ih (fun p hp => hk p (List.mem_cons_of_mem _ hp)) (fun p hp => he p (List.mem_cons_of_mem _ hp))
    rw [List.map_cons]
    unfold compGo
    show (k (env.set t (some p.d)) M).calm.bind (fun b M1 => if b then ((el (env.set t (some p.d)) M1).calm.bind fun y M2 => (compGo (.n t) k el env (r.map Fm.d) M2).bind fun ys M3 => Res.ok (y :: ys) M3) else compGo (.n t) k el env (r.map Fm.d) M1) = _
    rw [hk p List.mem_cons_self]
    unfold restF at ih ⊢
    rw [List.filter_cons]
    cases hp : p.isW a with
    | false =>
      show (el (env.set t (some p.d)) M).calm.bind (fun y M2 => (compGo (.n t) k el env (r.map Fm.d) M2).bind fun ys M3 => Res.ok (y :: ys) M3) = _
      rw [he p List.mem_cons_self]
      show (compGo (.n t) k el env (r.map Fm.d) M).bind (fun ys M3 => Res.ok (p.d :: ys) M3) = _
      rw [ih]; rfl
    | true =>
      show compGo (.n t) k el env (r.map Fm.d) M = _
      rw [ih]; rfl
theorem all_of_ok {ps : List Fm} (h : ∀ p ∈ ps, p.Ok b ∧ p.dp ≤ 30 ∧ p.sz ≤ 1000) (hl : ps.length ≤ 1000) : Calc (callN T (n + 1)) "all_of" [.lst (ps.map Fm.d)] (joinF true ps).d := by
  have hr : ∀ p ∈ restF true ps, p.Ok b ∧ p.dp ≤ 60 := fun p hp => by
    obtain ⟨h1, h2, _⟩ := h p (List.mem_filter.mp hp).1
    exact ⟨h1, by omega⟩
  have hrl : (restF true ps).length ≤ 1000 := Nat.le_trans (List.length_filter_le _ _) hl
  refine own_call (fn := f_all_of) (by kernel_rfl) rfl rfl (join_ok (k := 30) (s := 1000) h (by decide) (by decide)).1.pure fun M => ⟨[], ?_⟩
  rw [List.append_nil]
  have g1 : compGo (.n 2) (fun env M => (evE (callN T n) f_all_of_k0 env M).bind fun x M1 => ofO (asB x) M1) (fun env M => evE (callN T n) f_all_of_c0 env M) [some (.lst (ps.map Fm.d)), none, none] (ps.map Fm.d) M = .ok ((restF true ps).map Fm.d) M := rest_comp (fun p hp => by
      have e := eq_yn (M := M) (y := true) (h p hp).1 (by have := (h p hp).2.1; omega)
      simp [ynS] at e
      simp [f_all_of_k0, e]) (fun p hp => by simp [f_all_of_c0])
  have g2 := in_fms (M := M) (y := false) hr
  have g3 := eq_fms (M := M) hr
  have e : (joinF true ps) = (if (restF true ps).any (Fm.isW false) = true then ynF false else match restF true ps with
    | [] => ynF true
    | [p] => p
    | p :: q :: r => .nd true (p :: q :: r)) := rfl
  simp [ynS] at g2
  simp [f_all_of]
  rw [g1]
  generalize restF true ps = l at g2 g3 hrl e
  cases hw : l.any (Fm.isW false) with
  | true =>
    rw [hw] at g2
    have e1 : joinF true ps = ynF false := by rw [e, hw]; rfl
    simp [g2]
    rw [e1]; rfl
  | false =>
    rw [hw] at g2 e
    simp only [Bool.false_eq_true, if_false] at e
    match l, hrl, g2, g3, e with
    | [], _, g2, g3, e =>
      simp at g2 g3
      simp [g2, g3]
      rw [e]; rfl
    | [p], _, g2, g3, e =>
      simp at g2 g3
      simp [g2, g3]
      rw [e]
    | p :: q :: r, hrl, g2, g3, e =>
      simp at g2 g3 hrl
      have hd : decide ((1 : Int) < (r.length : Int) + 1 + 1) = true := decide_eq_true (by omega)
      have hst : starD (.str "and") (.lst (p.d :: q.d :: r.map Fm.d)) M = .ok (.tup (.str "and" :: p.d :: q.d :: r.map Fm.d)) M := st_lst (decide_eq_true (by simp; omega))
      simp [g2, hd, hst]
      rw [e]
      dsimp only
      rw [Fm.d, ds_map]; rfl
theorem some_of_ok {ps : List Fm} (h : ∀ p ∈ ps, p.Ok b ∧ p.dp ≤ 30 ∧ p.sz ≤ 1000) (hl : ps.length ≤ 1000) : Calc (callN T (n + 1)) "some_of" [.lst (ps.map Fm.d)] (joinF false ps).d := by
  have hr : ∀ p ∈ restF false ps, p.Ok b ∧ p.dp ≤ 60 := fun p hp => by
    obtain ⟨h1, h2, _⟩ := h p (List.mem_filter.mp hp).1
    exact ⟨h1, by omega⟩
  have hrl : (restF false ps).length ≤ 1000 := Nat.le_trans (List.length_filter_le _ _) hl
  refine own_call (fn := f_some_of) (by kernel_rfl) rfl rfl (join_ok (k := 30) (s := 1000) h (by decide) (by decide)).1.pure fun M => ⟨[], ?_⟩
  rw [List.append_nil]
  have g1 : compGo (.n 2) (fun env M => (evE (callN T n) f_some_of_k0 env M).bind fun x M1 => ofO (asB x) M1) (fun env M => evE (callN T n) f_some_of_c0 env M) [some (.lst (ps.map Fm.d)), none, none] (ps.map Fm.d) M = .ok ((restF false ps).map Fm.d) M := rest_comp (fun p hp => by
      have e := eq_yn (M := M) (y := false) (h p hp).1 (by have := (h p hp).2.1; omega)
      simp [ynS] at e
      simp [f_some_of_k0, e]) (fun p hp => by simp [f_some_of_c0])
  have g2 := in_fms (M := M) (y := true) hr
  have g3 := eq_fms (M := M) hr
  have e : (joinF false ps) = (if (restF false ps).any (Fm.isW true) = true then ynF true else match restF false ps with
    | [] => ynF false
    | [p] => p
    | p :: q :: r => .nd false (p :: q :: r)) := rfl
  simp [ynS] at g2
  simp [f_some_of]
  rw [g1]
  generalize restF false ps = l at g2 g3 hrl e
  cases hw : l.any (Fm.isW true) with
  | true =>
    rw [hw] at g2
    have e1 : joinF false ps = ynF true := by rw [e, hw]; rfl
    simp [g2]
    rw [e1]; rfl
  | false =>
    rw [hw] at g2 e
    simp only [Bool.false_eq_true, if_false] at e
    match l, hrl, g2, g3, e with
    | [], _, g2, g3, e =>
      simp at g2 g3
      simp [g2, g3]
      rw [e]; rfl
    | [p], _, g2, g3, e =>
      simp at g2 g3
      simp [g2, g3]
      rw [e]
    | p :: q :: r, hrl, g2, g3, e =>
      simp at g2 g3 hrl
      have hd : decide ((1 : Int) < (r.length : Int) + 1 + 1) = true := decide_eq_true (by omega)
      have hst : starD (.str "or") (.lst (p.d :: q.d :: r.map Fm.d)) M = .ok (.tup (.str "or" :: p.d :: q.d :: r.map Fm.d)) M := st_lst (decide_eq_true (by simp; omega))
      simp [g2, hd, hst]
      rw [e]
      dsimp only
      rw [Fm.d, ds_map]; rfl
end
end K06T
end Z


/-! K06M: things mixed. -/
namespace Z
namespace K06T
open PySem L2
section
variable {Rs : Sto} {cells : List Int} {b : Int} {u v w : MO}
theorem dm_at1 : (dealM (Rs ++ [u, v]) cells b)[Rs.length + 2]? = some u := by
  show (_ :: _ :: (Rs ++ [u, v]))[Rs.length + 2]? = _
  simp
theorem dm_at2 : (dealM (Rs ++ [u, v]) cells b)[Rs.length + 3]? = some v := by
  show (_ :: _ :: (Rs ++ [u, v]))[Rs.length + 1 + 2]? = _
  simp
theorem dm_set1 : (dealM (Rs ++ [u, v]) cells b).set (Rs.length + 2) w = dealM (Rs ++ [w, v]) cells b := by
  show (_ :: _ :: (Rs ++ [u, v])).set (Rs.length + 2) w = _ :: _ :: (Rs ++ [w, v])
  simp
theorem dm_set2 : (dealM (Rs ++ [u, v]) cells b).set (Rs.length + 3) w = dealM (Rs ++ [u, w]) cells b := by
  show (_ :: _ :: (Rs ++ [u, v])).set (Rs.length + 1 + 2) w = _ :: _ :: (Rs ++ [u, w])
  simp
end
theorem Deal.put1 {Rs : Sto} {u v w : MO} {M : Sto} (d : Deal (Rs ++ [u, v]) M) : M[Rs.length + 2]? = some u ∧ M[Rs.length + 3]? = some v ∧ Deal (Rs ++ [w, v]) (M.set (Rs.length + 2) w) ∧ Deal (Rs ++ [u, w]) (M.set (Rs.length + 3) w) := by
  obtain ⟨cells, b, rfl, h⟩ := d.is
  exact ⟨dm_at1, dm_at2, ⟨cells, b, dm_set1, h⟩, ⟨cells, b, dm_set2, h⟩⟩
theorem Deal.put0 {Rs : Sto} {u w : MO} {M : Sto} (d : Deal (Rs ++ [u]) M) : M[Rs.length + 2]? = some u ∧ Deal (Rs ++ [w]) (M.set (Rs.length + 2) w) := by
  obtain ⟨cells, b, rfl, h⟩ := d.is
  constructor
  · show (_ :: _ :: (Rs ++ [u]))[Rs.length + 2]? = _
    simp
  · refine ⟨cells, b, ?_, h⟩
    show (_ :: _ :: (Rs ++ [u])).set (Rs.length + 2) w = _ :: _ :: (Rs ++ [w])
    simp
theorem Deal.more {Rs : Sto} {M : Sto} (d : Deal Rs M) (X : Sto) : Deal (Rs ++ X) (M ++ X) := by
  obtain ⟨cells, b, rfl, h⟩ := d.is
  exact ⟨cells, b, rfl, h⟩
theorem Deal.len {Rs : Sto} {M : Sto} (d : Deal Rs M) : M.length = Rs.length + 2 := by
  obtain ⟨cells, b, rfl, _⟩ := d.is
  simp [dealM]
theorem erase_perm {α : Type} : ∀ {l : List α} {k : Nat} (h : k < l.length), (l[k] :: l.eraseIdx k).Perm l
  | x :: r, 0, _ => .refl _
  | x :: r, k + 1, h => by
    have ih := erase_perm (l := r) (k := k) (by simpa using h)
    exact (List.Perm.swap x _ _).trans (ih.cons x)
theorem mixed_loop {Rs : Sto} {n : Nat} {p1 : Option D} {P : D → Prop} (hP : ∀ d, P d → D.fit 63 d = true) : ∀ (k : Nat) (left found : List D) (M : Sto), left.length = k → k + found.length ≤ 1000 → (∀ d ∈ left, P d) → (∀ d ∈ found, P d) → Deal (Rs ++ [.lst left, .lst found]) M →
    ∃ ys M', whlN (fun env M => evE (callN T (n + 1)) f_law_mixed_w0 env M) (fun env M => evSs (callN T (n + 1)) f_law_mixed_b0 env M) (k + 1) [some (.loc 1), p1, some (.loc (Rs.length + 2)), some (.loc (Rs.length + 3))] M = .ok (.nx [some (.loc 1), p1, some (.loc (Rs.length + 2)), some (.loc (Rs.length + 3))]) M' ∧ Deal (Rs ++ [.lst [], .lst ys]) M' ∧ (∀ d ∈ ys, P d) ∧ ys.length = k + found.length ∧ ys.Perm (left ++ found)
  | 0, left, found, M, hk, hl, h1, h2, d => by
    obtain rfl := List.eq_nil_of_length_eq_zero hk
    obtain ⟨a1, a2, _, _⟩ := d.put1 (w := .dead)
    refine ⟨found, M, ?_, d, h2, by simp, List.Perm.refl _⟩
    have heq := eq_loc a1 (by rfl)
    unfold whlN
    simp at heq
    simp [f_law_mixed_w0, heq]
  | k + 1, left, found, M, hk, hl, h1, h2, d => by
    obtain ⟨a1, a2, _, _⟩ := d.put1 (w := .dead)
    have heq := eq_loc a1 (fits_of fun d hd => hP d (h1 d hd))
    have he : left.isEmpty = false := by
      cases left with
      | nil => cases hk
      | cons _ _ => rfl
    rw [he] at heq
    have hdv : divOk (left.length : Int) = true := by
      refine decide_eq_true ⟨by omega, ?_⟩
      have : (left.length : Int).natAbs = left.length := by simp
      rw [this]
      have h3 : left.length.log2 ≤ left.length := Nat.log2_le_self _
      omega
    obtain ⟨r, M1, e1, d1, r0, r1⟩ := law_any_ok (n := n) (bound := (left.length : Int)) d (by omega) hdv
    obtain ⟨b1, b2, _, _⟩ := d1.put1 (w := .dead)
    have hr : r.toNat < left.length := by omega
    have hrr : r = ((r.toNat : Nat) : Int) := by omega
    have g1 := md_popAt (k := r.toNat) b1 (List.getElem?_eq_getElem hr) (by omega)
    rw [← hrr] at g1
    obtain ⟨_, _, d2, _⟩ := d1.put1 (w := .lst (left.eraseIdx r.toNat))
    obtain ⟨c1, c2, _, d3⟩ := d2.put1 (w := .lst (found ++ [left[r.toNat]]))
    have g2 := md_append (d := left[r.toNat]) c2 (by omega)
    have hlen : (left.eraseIdx r.toNat).length = k := by rw [List.length_eraseIdx_of_lt hr]; omega
    have hsub : ∀ d ∈ left.eraseIdx r.toNat, P d := fun d hd => h1 d ((List.eraseIdx_sublist _ _).subset hd)
    obtain ⟨ys, M', f1, f2, f3, f4, f5⟩ := mixed_loop (n := n) (p1 := p1) hP k (left.eraseIdx r.toNat) (found ++ [left[r.toNat]]) _ hlen (by rw [List.length_append]; simp; omega) hsub (fun d hd => by
      rcases List.mem_append.mp hd with hd | hd
      · exact h2 d hd
      · rw [List.mem_singleton] at hd; subst hd; exact h1 _ (List.getElem_mem hr)) d3
    have f6 : ys.Perm (left ++ found) := by
      refine f5.trans ?_
      rw [← List.append_assoc]
      refine (List.perm_append_comm).trans ?_
      rw [← List.append_assoc]
      exact List.Perm.append_right _ (erase_perm hr)
    refine ⟨ys, M', ?_, f2, f3, by rw [f4, List.length_append]; simp; omega, f6⟩
    have hc : evE (callN T (n + 1)) f_law_mixed_w0 [some (.loc 1), p1, some (.loc (Rs.length + 2)), some (.loc (Rs.length + 3))] M = .ok (.bl true) M := by
      simp [f_law_mixed_w0, heq]
    have hln : biD .len false [.loc (Rs.length + 2)] M = .ok (.int left.length) M := by
      show (match M[Rs.length + 2]? with
        | some (.lst xs) => Res.ok (D.int xs.length) M
        | some (.dct kvs) => Res.ok (D.int kvs.length) M
        | _ => .fail) = _
      rw [a1]
    have hb : evSs (callN T (n + 1)) f_law_mixed_b0 [some (.loc 1), p1, some (.loc (Rs.length + 2)), some (.loc (Rs.length + 3))] M = .ok (.nx [some (.loc 1), p1, some (.loc (Rs.length + 2)), some (.loc (Rs.length + 3))]) ((M1.set (Rs.length + 2) (.lst (left.eraseIdx r.toNat))).set (Rs.length + 3) (.lst (found ++ [left[r.toNat]]))) := by
      simp [f_law_mixed_b0, kd_append a2, kd_popAt a1, hln, e1, g1, g2]
    unfold whlN
    rw [hc]
    dsimp only [out_ok]
    rw [hb]
    exact f1
theorem law_mixed_ok {Rs : Sto} {n : Nat} {M : Sto} {xs : List D} {P : D → Prop} (hP : ∀ d, P d → D.fit 63 d = true) (hl : xs.length ≤ 1000) (hx : ∀ d ∈ xs, P d) (d : Deal Rs M) :
    ∃ ys M', callN T (n + 2) "_law_mixed" [.loc 1, .lst xs] M = .ok (.lst ys) M' ∧ Deal (Rs ++ [.lst [], .dead]) M' ∧ (∀ d ∈ ys, P d) ∧ ys.length = xs.length ∧ ys.Perm xs := by
  have hM : M.length = Rs.length + 2 := by
    obtain ⟨cells, b, rfl, _⟩ := d.is
    simp [dealM]
  have d1 : Deal (Rs ++ [.lst xs, .lst []]) (M ++ [.lst xs, .lst []]) := by
    obtain ⟨cells, b, rfl, h⟩ := d.is
    exact ⟨cells, b, rfl, h⟩
  obtain ⟨ys, M', e, d2, h1, h2, h3⟩ := mixed_loop (n := n) (p1 := some (.lst xs)) hP xs.length xs [] _ rfl (by simpa using hl) hx (fun _ h => nomatch h) d1
  obtain ⟨a1, a2, _, d3⟩ := d2.put1 (w := .dead)
  have e4 := whl_go (n := xs.length + 1) (c := fun env M => evE (callN T (n + 1)) f_law_mixed_w0 env M) (b := fun env M => evSs (callN T (n + 1)) f_law_mixed_b0 env M) (by rw [e]; exact fun h => by cases h)
  rw [e] at e4
  have g := frz_at a2
  refine ⟨ys, M'.set (Rs.length + 3) .dead, ?_, d3, h1, by simpa using h2, by simpa using h3⟩
  refine free_call (fn := f_law_mixed) (by kernel_rfl) rfl rfl ?_
  simp [f_law_mixed, hM]
  rw [e4]
  simp [g]
theorem fms_list {P : Fm → Prop} : ∀ {ys : List D}, (∀ d ∈ ys, ∃ F : Fm, d = F.d ∧ P F) → ∃ ps : List Fm, ys = ps.map Fm.d ∧ ∀ p ∈ ps, P p
  | [], _ => ⟨[], rfl, fun _ h => nomatch h⟩
  | y :: r, h => by
    obtain ⟨F, e, hF⟩ := h y List.mem_cons_self
    obtain ⟨ps, h1, h2⟩ := fms_list (ys := r) fun d hd => h d (List.mem_cons_of_mem _ hd)
    refine ⟨F :: ps, by rw [e, h1]; rfl, fun p hp => ?_⟩
    rcases List.mem_cons.mp hp with rfl | hp
    · exact hF
    · exact h2 p hp
end K06T
end Z


/-! K06X: the facts of a formula, its unknowns. -/
namespace Z
namespace K06T
open PySem L2
mutual
def Fm.fcts : Fm → List (Int × (Str → Int))
  | .fact c f => [(c, f)]
  | .yes => []
  | .no => []
  | .nd _ ps => Fm.fctss ps
def Fm.fctss : List Fm → List (Int × (Str → Int))
  | [] => []
  | p :: r => Fm.fcts p ++ Fm.fctss r
end
def fD' (p : Int × (Str → Int)) : D := fmD p.1 p.2
theorem fctss_app : ∀ (a c : List Fm), Fm.fctss (a ++ c) = Fm.fctss a ++ Fm.fctss c
  | [], c => rfl
  | p :: r, c => by rw [List.cons_append, Fm.fctss, fctss_app r c, Fm.fctss, List.append_assoc]
mutual
theorem fcts_len : ∀ F : Fm, F.fcts.length ≤ F.sz
  | .fact _ _ => by rw [Fm.fcts, Fm.sz]; exact Nat.le_refl _
  | .yes => Nat.zero_le _
  | .no => Nat.zero_le _
  | .nd a ps => by rw [Fm.fcts, Fm.sz]; have := fctss_len ps; omega
theorem fctss_len : ∀ ps : List Fm, (Fm.fctss ps).length ≤ Fm.szs ps
  | [] => Nat.zero_le _
  | p :: r => by
    rw [Fm.fctss, Fm.szs, List.length_append]
    have h1 := fcts_len p
    have h2 := fctss_len r
    omega
end
section
variable {P : Sto} {u v w : MO}
theorem tw_at1 : (P ++ [u, v])[P.length]? = some u := by simp
theorem tw_at2 : (P ++ [u, v])[P.length + 1]? = some v := by simp
theorem tw_set1 : (P ++ [u, v]).set P.length w = P ++ [w, v] := by simp
theorem tw_set2 : (P ++ [u, v]).set (P.length + 1) w = P ++ [u, w] := by simp
end
section
variable {b : Nat}
theorem facts_loop {n : Nat} {P : Sto} {p0 : Option D} : ∀ (k : Nat) (st : List Fm) (l : List (Int × (Str → Int))) (x3 : Option D), Fm.szs st = k → k + l.length ≤ 4000 → (∀ p ∈ st, p.Ok b ∧ p.dp ≤ 40) →
    ∃ y3, whlN (fun env M => evE (callN T n) f_facts_in_w0 env M) (fun env M => evSs (callN T n) f_facts_in_b0 env M) (k + 1) [p0, some (.loc P.length), some (.loc (P.length + 1)), x3] (P ++ [.lst (st.map Fm.d), .lst (l.map fD')]) =
      .ok (.nx [p0, some (.loc P.length), some (.loc (P.length + 1)), y3]) (P ++ [.lst [], .lst ((l ++ Fm.fctss st.reverse).map fD')])
  | k, st, l, x3, hk, hl, ho => by
    have hfit : D.fits 63 (st.map Fm.d) = true := fits_of fun d hd => by
      obtain ⟨p, hp, rfl⟩ := List.mem_map.mp hd
      exact (ho p hp).1.fit 63 (by have := (ho p hp).2; omega)
    have heq := eq_loc (tw_at1 (P := P) (u := .lst (st.map Fm.d)) (v := .lst (l.map fD'))) hfit
    rcases List.eq_nil_or_concat st with e | ⟨pre, F, e⟩
    · subst e
      refine ⟨x3, ?_⟩
      unfold whlN
      simp at heq
      simp [f_facts_in_w0, heq, Fm.fctss]
    · rw [List.concat_eq_append] at e
      subst e
      obtain ⟨hF, hd⟩ := ho F (by simp)
      have hsz : Fm.szs (pre ++ [F]) = Fm.szs pre + F.sz := by
        rw [szs_map, List.map_append, List.sum_append, ← szs_map]
        simp
      have hk2 : Fm.szs pre + F.sz = k := by rw [← hsz]; exact hk
      have h1z := sz_pos F
      obtain ⟨k', rfl⟩ : ∃ k', k = k' + 1 := ⟨k - 1, by omega⟩
      have hne : (pre ++ [F]).map Fm.d = pre.map Fm.d ++ [F.d] := by rw [List.map_append]; rfl
      rw [hne] at heq ⊢
      have hemp : (pre.map Fm.d ++ [F.d]).isEmpty = false := by simp
      rw [hemp] at heq
      have g1 := md_pop (tw_at1 (P := P) (u := .lst (pre.map Fm.d ++ [F.d])) (v := .lst (l.map fD')))
      rw [tw_set1] at g1
      have g2 := kd_pop (tw_at1 (P := P) (u := .lst (pre.map Fm.d ++ [F.d])) (v := .lst (l.map fD')))
      have hrev : (pre ++ [F]).reverse = F :: pre.reverse := by simp
      have hc : evE (callN T n) f_facts_in_w0 [p0, some (.loc P.length), some (.loc (P.length + 1)), x3] (P ++ [.lst (pre.map Fm.d ++ [F.d]), .lst (l.map fD')]) = .ok (.bl true) (P ++ [.lst (pre.map Fm.d ++ [F.d]), .lst (l.map fD')]) := by
        simp [f_facts_in_w0, heq]
      obtain ⟨w1, w2, w3, w4, w5, w6, w7, w8, w9⟩ := wd_ne
      have fin : ∀ (st' : List Fm) (l' : List (Int × (Str → Int))), Fm.szs st' ≤ k' → Fm.szs st' + l'.length ≤ k' + l.length + 1 → (∀ p ∈ st', p.Ok b ∧ p.dp ≤ 40) → l' ++ Fm.fctss st'.reverse = l ++ Fm.fctss (F :: pre.reverse) →
          evSs (callN T n) f_facts_in_b0 [p0, some (.loc P.length), some (.loc (P.length + 1)), x3] (P ++ [.lst (pre.map Fm.d ++ [F.d]), .lst (l.map fD')]) = .ok (.nx [p0, some (.loc P.length), some (.loc (P.length + 1)), some F.d]) (P ++ [.lst (st'.map Fm.d), .lst (l'.map fD')]) →
          ∃ y3, whlN (fun env M => evE (callN T n) f_facts_in_w0 env M) (fun env M => evSs (callN T n) f_facts_in_b0 env M) (k' + 1 + 1) [p0, some (.loc P.length), some (.loc (P.length + 1)), x3] (P ++ [.lst (pre.map Fm.d ++ [F.d]), .lst (l.map fD')]) =
            .ok (.nx [p0, some (.loc P.length), some (.loc (P.length + 1)), y3]) (P ++ [.lst [], .lst ((l ++ Fm.fctss (pre ++ [F]).reverse).map fD')]) := by
        intro st' l' q1 q2 q3 q4 hb
        obtain ⟨y3, ih⟩ := facts_loop (n := n) (P := P) (p0 := p0) (Fm.szs st') st' l' (some F.d) rfl (by omega) q3
        refine ⟨y3, ?_⟩
        rw [q4, ← hrev] at ih
        have ih2 := whl_mono (n := Fm.szs st' + 1) (m := k' + 1) (by omega) (c := fun env M => evE (callN T n) f_facts_in_w0 env M) (b := fun env M => evSs (callN T n) f_facts_in_b0 env M) (env := [p0, some (.loc P.length), some (.loc (P.length + 1)), some F.d]) (M := P ++ [.lst (st'.map Fm.d), .lst (l'.map fD')]) (by rw [ih]; exact fun h => by cases h)
        unfold whlN
        rw [hc]
        dsimp only [out_ok]
        rw [hb]
        exact ih2.trans ih
      have hpre : ∀ p ∈ pre, p.Ok b ∧ p.dp ≤ 40 := fun p hp => ho p (List.mem_append_left _ hp)
      obtain ⟨i1, i2, i3, i4, i5, i6, i7⟩ := in_yn (M := P ++ [.lst (pre.map Fm.d), .lst (l.map fD')])
      cases hF with
      | @fact c f s =>
        rw [Fm.sz] at hk2
        rw [Fm.d] at g1 g2 heq fin hc ⊢
        refine fin pre (l ++ [(c, f)]) (by omega) (by rw [List.length_append]; simp; omega) hpre (by rw [Fm.fctss, Fm.fcts, List.append_assoc]) ?_
        have g3 := kd_append (tw_at2 (P := P) (u := .lst (pre.map Fm.d)) (v := .lst (l.map fD')))
        have g4 := md_append (d := fmD c f) (tw_at2 (P := P) (u := .lst (pre.map Fm.d)) (v := .lst (l.map fD'))) (by rw [List.length_map]; omega)
        rw [tw_set2] at g4
        have e5 : (l ++ [(c, f)]).map fD' = l.map fD' ++ [fmD c f] := by rw [List.map_append]; rfl
        rw [e5]
        simp [f_facts_in_b0, g1, g2, w1, g3, g4]
      | yes =>
        rw [Fm.sz] at hk2
        rw [Fm.d] at g1 g2 heq fin hc ⊢
        refine fin pre l (by omega) (by omega) hpre (by rw [Fm.fctss, Fm.fcts, List.nil_append]) ?_
        have i8 : inD (P ++ [.lst (pre.map Fm.d), .lst (l.map fD')]) (.str "yes") (.tup [.str "and", .str "or"]) = some false := by kernel_rfl
        simp [f_facts_in_b0, g1, g2, w8, i8]
      | no =>
        rw [Fm.sz] at hk2
        rw [Fm.d] at g1 g2 heq fin hc ⊢
        refine fin pre l (by omega) (by omega) hpre (by rw [Fm.fctss, Fm.fcts, List.nil_append]) ?_
        have i8 : inD (P ++ [.lst (pre.map Fm.d), .lst (l.map fD')]) (.str "no") (.tup [.str "and", .str "or"]) = some false := by kernel_rfl
        simp [f_facts_in_b0, g1, g2, w9, i8]
      | @nd a ps h1 h2 =>
        rw [Fm.sz] at hk2
        rw [Fm.dp] at hd
        rw [Fm.d, ds_map] at g1 g2 heq fin hc ⊢
        have hlp := szs_len ps
        have hlpre := szs_len pre
        have hs2 : Fm.szs (pre ++ ps.reverse) = Fm.szs pre + Fm.szs ps := by
          rw [szs_map, szs_map, szs_map, List.map_append, List.sum_append, List.map_reverse, List.sum_reverse]
        refine fin (pre ++ ps.reverse) l (by omega) (by omega) (fun p hp => ?_) (by rw [List.reverse_append, List.reverse_reverse, fctss_app, Fm.fctss, Fm.fcts]) ?_
        · rcases List.mem_append.mp hp with hp | hp
          · exact hpre p hp
          · have hp := List.mem_reverse.mp hp
            exact ⟨h2 p hp, by have : p.dp ≤ Fm.dps ps := dps_le hp; omega⟩
        have g3 := kd_extend (tw_at1 (P := P) (u := .lst (pre.map Fm.d)) (v := .lst (l.map fD')))
        have g4 := md_extend (ys := (ps.map Fm.d).reverse) (tw_at1 (P := P) (u := .lst (pre.map Fm.d)) (v := .lst (l.map fD'))) (by rw [List.length_map, List.length_reverse, List.length_map]; omega)
        rw [tw_set1] at g4
        have g5 : ∀ M, biD .list false [.tup (ps.map Fm.d)] M = .ok (.lst (ps.map Fm.d)) M := fun M => rfl
        have e5 : (pre ++ ps.reverse).map Fm.d = pre.map Fm.d ++ (ps.map Fm.d).reverse := by rw [List.map_append, List.map_reverse]
        rw [e5]
        cases a
        · simp [wrd] at g1 g2 ⊢
          simp [f_facts_in_b0, g1, g2, w3, i7, g3, slcD, cut1, g5, g4]
        · simp [wrd] at g1 g2 ⊢
          simp [f_facts_in_b0, g1, g2, w2, i6, g3, slcD, cut1, g5, g4]
theorem facts_in_ok {n : Nat} {F : Fm} (h : F.Ok b) (hd : F.dp ≤ 40) (hs : F.sz ≤ 4000) : Calc (callN T (n + 1)) "facts_in" [F.d] (.lst (F.fcts.map fD')) := by
  have hp : D.pure (.lst (F.fcts.map fD')) = true := pures_of fun d hd => by
    obtain ⟨p, _, rfl⟩ := List.mem_map.mp hd
    exact fm_pure
  refine own_call (fn := f_facts_in) (by kernel_rfl) rfl rfl hp fun M => ⟨[.lst [], .dead], ?_⟩
  obtain ⟨y3, e⟩ := facts_loop (n := n) (P := M) (p0 := some F.d) (b := b) F.sz [F] [] none (by rw [Fm.szs, Fm.szs]; rfl) (by simpa using hs) (fun p hp => by rw [List.mem_singleton] at hp; subst hp; exact ⟨h, hd⟩)
  have e4 := whl_go (n := F.sz + 1) (c := fun env M => evE (callN T n) f_facts_in_w0 env M) (b := fun env M => evSs (callN T n) f_facts_in_b0 env M) (by rw [e]; exact fun h => by cases h)
  rw [e] at e4
  have e5 : ([] : List (Int × (Str → Int))) ++ Fm.fctss [F].reverse = F.fcts := by simp [Fm.fctss]
  rw [e5] at e4
  have g := frz_at (tw_at2 (P := M) (u := .lst []) (v := .lst (F.fcts.map fD')))
  rw [tw_set2] at g
  simp at e4
  simp [f_facts_in]
  rw [e4]
  simp [g]
/-! ### unknowns -/
mutual
def Fm.uses (x : Str) : Fm → Bool
  | .fact _ f => f x != 0
  | .yes => false
  | .no => false
  | .nd _ ps => Fm.usess x ps
def Fm.usess (x : Str) : List Fm → Bool
  | [] => false
  | p :: r => Fm.uses x p || Fm.usess x r
end
def nmsF (l : List (Int × (Str → Int))) : List Str := (l.map fun p => rowL p.2).flatten
theorem nms_app {a c : List (Int × (Str → Int))} : nmsF (a ++ c) = nmsF a ++ nmsF c := by unfold nmsF; rw [List.map_append, List.flatten_append]
mutual
theorem uses_mem {x : Str} (hx : x ∈ NL) : ∀ F : Fm, x ∈ nmsF F.fcts ↔ F.uses x = true
  | .fact c f => by
    rw [Fm.fcts, Fm.uses]
    unfold nmsF
    simp only [List.map_cons, List.map_nil, List.flatten_cons, List.flatten_nil, List.append_nil]
    rw [row_mem hx]
    simp
  | .yes => by rw [Fm.fcts, Fm.uses]; simp [nmsF]
  | .no => by rw [Fm.fcts, Fm.uses]; simp [nmsF]
  | .nd a ps => by rw [Fm.fcts, Fm.uses]; exact usess_mem hx ps
theorem usess_mem {x : Str} (hx : x ∈ NL) : ∀ ps : List Fm, x ∈ nmsF (Fm.fctss ps) ↔ Fm.usess x ps = true
  | [] => by rw [Fm.fctss, Fm.usess]; simp [nmsF]
  | p :: r => by rw [Fm.fctss, Fm.usess, nms_app, List.mem_append, uses_mem hx p, usess_mem hx r, Bool.or_eq_true]
end
theorem nms_NL : ∀ l : List (Int × (Str → Int)), ∀ x ∈ nmsF l, x ∈ NL
  | [], x, h => by simp [nmsF] at h
  | p :: r, x, h => by
    have e : nmsF (p :: r) = rowL p.2 ++ nmsF r := by unfold nmsF; rw [List.map_cons, List.flatten_cons]
    rw [e] at h
    rcases List.mem_append.mp h with h | h
    · exact (row_sub _).subset h
    · exact nms_NL r x h
theorem NL_few : NL.length ≤ 12 := by decide
theorem nms_len : ∀ l : List (Int × (Str → Int)), (nmsF l).length ≤ l.length * 12
  | [] => by simp [nmsF]
  | p :: r => by
    have e : nmsF (p :: r) = rowL p.2 ++ nmsF r := by unfold nmsF; rw [List.map_cons, List.flatten_cons]
    rw [e, List.length_append, List.length_cons, Nat.add_mul, Nat.one_mul]
    have h1 : (rowL p.2).length ≤ 12 := Nat.le_trans (row_sub p.2).length_le NL_few
    have h2 := nms_len r
    omega
theorem unk_inner {C : Calls} {env : En} {M : Sto} (he : env.length = 4) {f : Str → Int} : ∀ l : List Str, compGo (.t [2, 3]) (fun _ M => .ok true M) (fun env M => evE C f_unknowns_of_c0 env M) env (prsD l f) M = .ok (l.map .str) M
  | [] => rfl
  | x :: r => by
    match env, he with
    | [e0, e1, e2, e3], _ =>
      have ih := unk_inner (C := C) (env := [e0, e1, e2, e3]) (M := M) rfl (f := f) r
      show compGo _ _ _ _ (.tup [.str x, .int (f x)] :: prsD r f) M = _
      unfold compGo
      simp [f_unknowns_of_c0] at ih ⊢
      rw [ih]
      simp
theorem unk_outer {C : Calls} {env : En} {M : Sto} (he : env.length = 4) : ∀ l : List (Int × (Str → Int)), compGo2 (.n 1) (fun _ M => .ok true M) (fun env M => evIt C (.sq (.idx (.var 1) (.cst (.int 1)))) env M) (.t [2, 3]) (fun _ M => .ok true M) (fun env M => evE C f_unknowns_of_c0 env M) [2, 3] env (l.map fD') M = .ok ((nmsF l).map .str) M
  | [] => rfl
  | p :: r => by
    match env, he with
    | [e0, e1, e2, e3], _ =>
      have ih := unk_outer (C := C) (env := [e0, e1, e2, e3]) (M := M) rfl r
      have e : nmsF (p :: r) = rowL p.2 ++ nmsF r := by unfold nmsF; rw [List.map_cons, List.flatten_cons]
      have hl : (rowL p.2).length ≤ 12 := Nat.le_trans (row_sub p.2).length_le NL_few
      have h1 : decide ((prsD (rowL p.2) p.2).length ≤ 1000) = true := decide_eq_true (by rw [prs_len]; omega)
      have h2 := unk_inner (C := C) (env := [e0, some (fD' p), none, none]) (M := M) rfl (f := p.2) (rowL p.2)
      have h3 : evIt C (.sq (.idx (.var 1) (.cst (.int 1)))) [e0, some (fD' p), e2, e3] M = .ok (prsD (rowL p.2) p.2) M := by simp [fD', fmD]
      rw [List.map_cons, e, List.map_append]
      unfold compGo2
      show (Res.ok true M).calm.bind _ = _
      simp only [calm_ok, bind_ok, if_true, ag_n]
      show ((evIt C (.sq (.idx (.var 1) (.cst (.int 1)))) [e0, some (fD' p), e2, e3] M).calm.bind fun items1 M2 => if decide (items1.length ≤ 1000) = true then _ else Res.fail) = _
      rw [h3]
      simp only [calm_ok, bind_ok]
      rw [if_pos h1]
      show ((compGo (.t [2, 3]) (fun _ M => .ok true M) (fun env M => evE C f_unknowns_of_c0 env M) [e0, some (fD' p), none, none] (prsD (rowL p.2) p.2) M).bind _) = _
      rw [h2]
      simp only [bind_ok]
      rw [ih]
      rfl
theorem unknowns_ok {n : Nat} {F : Fm} (h : F.Ok b) (hd : F.dp ≤ 40) (hs : F.sz ≤ 150) : Calc (callN T (n + 7)) "unknowns_of" [F.d] (.tup ((NL.filter fun x => F.uses x).map .str)) := by
  have hp : D.pure (.tup ((NL.filter fun x => F.uses x).map .str)) = true := pures_of fun d hd => by
    obtain ⟨x, _, rfl⟩ := List.mem_map.mp hd
    rfl
  refine own_call (fn := f_unknowns_of) (by kernel_rfl) rfl rfl hp fun M => ⟨[], ?_⟩
  rw [List.append_nil]
  have g1 := checked_formula_ok (n := n) (k := 0) h hd (by omega) M
  have g2 := facts_in_ok (n := n + 5) h hd (by omega) M
  have hl := fcts_len F
  have g3 : decide ((F.fcts.map fD').length ≤ 1000) = true := decide_eq_true (by rw [List.length_map]; omega)
  have g4 := unk_outer (C := callN T (n + 6)) (env := [some F.d, none, none, none]) (M := M) rfl F.fcts
  have h12 := nms_len F.fcts
  have g5 := bd_sset (m := false) (M := M) (bs := nmsF F.fcts) (by omega)
  have e := sort_pick (ks := dedupStr (nmsF F.fcts)) (p := fun x => F.uses x) (nodup_dedup _) (fun k hk => nms_NL _ k (mem_dedup.mp hk)) fun x hx hu => mem_dedup.mpr ((uses_mem hx F).mpr hu)
  have e2 : (sortStr (dedupStr (nmsF F.fcts))).filter (fun x => F.uses x) = sortStr (dedupStr (nmsF F.fcts)) := List.filter_eq_self.mpr fun x hx => by
    have hx2 := mem_dedup.mp ((sortStr_perm _).mem_iff.mp hx)
    exact (uses_mem (nms_NL _ x hx2) F).mp hx2
  rw [e2] at e
  rw [e] at g5
  simp at g3 g4
  simp [f_unknowns_of, g1, g2, g3]
  rw [g4]
  simp [g5]
end
end K06T
end Z


/-! K06N: names exchanged. -/
namespace Z
namespace K06T
open PySem L2
def TW : List Str := ["a", "a#1", "a#1.2", "r0", "x_2", "n0000000000000000000000000000000000000000000000000000000000#", "q7", "q8", "q9"]
theorem TW_NL : ∀ x ∈ TW, x ∈ NL := by decide +kernel
theorem TW_nd : TW.Nodup := by decide +kernel
theorem NW_nd : NW.Nodup := by decide +kernel
/-- an exchange of names -/
structure Bk (β : Str → Str) : Prop where
  perm : (NW.map β).Perm TW
theorem map_of : ∀ {l ms : List Str}, l.Nodup → ms.length = l.length → ∃ β : Str → Str, ms = l.map β
  | [], ms, _, h => ⟨fun x => x, by cases ms; rfl; cases h⟩
  | x :: r, [], _, h => by cases h
  | x :: r, m :: ms, nd, h => by
    obtain ⟨n1, n2⟩ := List.nodup_cons.mp nd
    obtain ⟨β, e⟩ := map_of (l := r) (ms := ms) n2 (by simpa using h)
    refine ⟨fun y => if y = x then m else β y, ?_⟩
    rw [List.map_cons, if_pos rfl, e]
    congr 1
    apply List.map_congr_left
    intro y hy
    have : y ≠ x := fun h => n1 (h ▸ hy)
    rw [if_neg this]
section
variable {β : Str → Str}
theorem Bk.inj (b : Bk β) {x y : Str} (hx : x ∈ NW) (hy : y ∈ NW) (e : β x = β y) : x = y := by
  have nd : (NW.map β).Nodup := b.perm.nodup_iff.mpr TW_nd
  have key : ∀ l : List Str, (l.map β).Nodup → ∀ x ∈ l, ∀ y ∈ l, β x = β y → x = y := by
    intro l
    induction l with
    | nil => intro _ x hx; cases hx
    | cons z r ih =>
      intro nd x hx y hy e
      rw [List.map_cons] at nd
      obtain ⟨n1, n2⟩ := List.nodup_cons.mp nd
      rcases List.mem_cons.mp hx with h1 | h1
      · rcases List.mem_cons.mp hy with h2 | h2
        · rw [h1, h2]
        · rw [h1] at e
          exact absurd (by rw [e]; exact List.mem_map_of_mem h2) n1
      · rcases List.mem_cons.mp hy with h2 | h2
        · rw [h2] at e
          exact absurd (by rw [← e]; exact List.mem_map_of_mem h1) n1
        · exact ih n2 x h1 y h2 e
  exact key NW nd x hx y hy e
theorem Bk.NL (b : Bk β) {x : Str} (hx : x ∈ NW) : β x ∈ K06T.NL := TW_NL _ (b.perm.mem_iff.mp (List.mem_map_of_mem hx))
/-- what stands for a name, brought back -/
def bkV {α : Type} (β : Str → Str) (z : α) (f : Str → α) (m : Str) : α := match NW.find? fun x => decide (β x = m) with
  | some x => f x
  | none => z
theorem bkV_at {α : Type} (b : Bk β) {z : α} {f : Str → α} {x : Str} (hx : x ∈ NW) : bkV β z f (β x) = f x := by
  unfold bkV
  cases e : NW.find? fun y => decide (β y = β x) with
  | none =>
    have := List.find?_eq_none.mp e x hx
    simp at this
  | some y =>
    have h1 := List.mem_of_find?_eq_some e
    have h2 := List.find?_some e
    have h2 : β y = β x := of_decide_eq_true h2
    rw [b.inj h1 hx h2]
theorem bkV_out {α : Type} {z : α} {f : Str → α} {m : Str} (h : ∀ x ∈ NW, β x ≠ m) : bkV β z f m = z := by
  unfold bkV
  cases e : NW.find? fun y => decide (β y = m) with
  | none => rfl
  | some y =>
    have h2 := List.find?_some e
    have h2 : β y = m := of_decide_eq_true h2
    exact absurd h2 (h y (List.mem_of_find?_eq_some e))
theorem bkV_cases {α : Type} (b : Bk β) (z : α) (f : Str → α) (m : Str) : (∃ x ∈ NW, β x = m ∧ bkV β z f m = f x) ∨ ((∀ x ∈ NW, β x ≠ m) ∧ bkV β z f m = z) := by
  by_cases h : ∃ x ∈ NW, β x = m
  · obtain ⟨x, hx, rfl⟩ := h
    exact .inl ⟨x, hx, rfl, bkV_at b hx⟩
  · have h : ∀ x ∈ NW, β x ≠ m := fun x hx e => h ⟨x, hx, e⟩
    exact .inr ⟨h, bkV_out h⟩
/-- rows of names, exchanged -/
theorem ren_perm {γ : Type} (b : Bk β) {P : Str → Bool} (hP : ∀ x ∈ NL, P x = true → x ∈ NW) {F : Str → γ} {z : γ} : ((NL.filter (bkV β false P)).map fun m => (m, bkV β z F m)).Perm ((NL.filter P).map fun x => (β x, F x)) := by
  have e1 : ((NL.filter (bkV β false P)).map fun m => (m, bkV β z F m)) = (NL.filter (bkV β false P)).map fun m => (m, bkV β z F m) := rfl
  have pm : (NL.filter (bkV β false P)).Perm ((NL.filter P).map β) := by
    have nd2 : ((NL.filter P).map β).Nodup := by
      have key : ∀ l : List Str, (∀ x ∈ l, x ∈ NW) → l.Nodup → (l.map β).Nodup := by
        intro l
        induction l with
        | nil => intro _ _; exact .nil
        | cons x r ih =>
          intro hl nd
          obtain ⟨n1, n2⟩ := List.nodup_cons.mp nd
          rw [List.map_cons]
          refine List.nodup_cons.mpr ⟨fun hm => ?_, ih (fun y hy => hl y (List.mem_cons_of_mem _ hy)) n2⟩
          obtain ⟨y, hy, e⟩ := List.mem_map.mp hm
          have := b.inj (hl y (List.mem_cons_of_mem _ hy)) (hl x List.mem_cons_self) e
          exact n1 (this ▸ hy)
      exact key _ (fun x hx => hP x (List.mem_filter.mp hx).1 (List.mem_filter.mp hx).2) (NL_nd.sublist List.filter_sublist)
    refine (List.perm_ext_iff_of_nodup (NL_nd.sublist List.filter_sublist) nd2).mpr fun m => ?_
    rw [List.mem_filter, List.mem_map]
    constructor
    · rintro ⟨h1, h2⟩
      rcases bkV_cases b false P m with ⟨x, hx, e, h3⟩ | ⟨_, h3⟩
      · exact ⟨x, List.mem_filter.mpr ⟨NW_NL x hx, by rw [← h3]; exact h2⟩, e⟩
      · rw [h3] at h2; cases h2
    · rintro ⟨x, hx, rfl⟩
      obtain ⟨h1, h2⟩ := List.mem_filter.mp hx
      have hw := hP x h1 h2
      exact ⟨b.NL hw, by rw [bkV_at b hw]; exact h2⟩
  have p2 := pm.map fun m => (m, bkV β z F m)
  rw [List.map_map] at p2
  have e2 : ((NL.filter P).map ((fun m => (m, bkV β z F m)) ∘ β)) = (NL.filter P).map fun x => (β x, F x) := by
    apply List.map_congr_left
    intro x hx
    obtain ⟨h1, h2⟩ := List.mem_filter.mp hx
    show (β x, bkV β z F (β x)) = _
    rw [bkV_at b (hP x h1 h2)]
  rw [e2] at p2
  exact p2
theorem ren_sort (b : Bk β) {P : Str → Bool} (hP : ∀ x ∈ NL, P x = true → x ∈ NW) {F : Str → Int} : sortP ((NL.filter P).map fun x => (β x, F x)) = (NL.filter (bkV β false P)).map fun m => (m, bkV β 0 F m) := by
  refine (sortP_one (ren_perm b hP) ?_).symm
  refine List.pairwise_map.mpr ((NL_asc.sublist List.filter_sublist).imp fun {x y} h => ?_)
  rw [lexS_no]
  rintro (h2 | ⟨h2, _⟩)
  · rw [ltStr_asym h] at h2; cases h2
  · have h2 : y = x := h2
    rw [h2, ltStr_irr] at h; cases h
theorem perm_sum {l m : List Int} (p : l.Perm m) : l.sum = m.sum := by
  induction p with
  | nil => rfl
  | cons x _ ih => rw [List.sum_cons, List.sum_cons, ih]
  | swap x y l => rw [List.sum_cons, List.sum_cons, List.sum_cons, List.sum_cons]; omega
  | trans _ _ h1 h2 => exact h1.trans h2
/-- a form, exchanged, by worths, exchanged -/
theorem ren_row (b : Bk β) {f : Str → Int} (h : ∀ m ∈ NL, m ∉ NW → f m = 0) : rowL (bkV β 0 f) = NL.filter (bkV β false fun x => f x != 0) := by
  unfold rowL
  apply List.filter_congr
  intro m _
  rcases bkV_cases b 0 f m with ⟨x, hx, rfl, e⟩ | ⟨hn, e⟩
  · rw [e, bkV_at b hx]
  · rw [e, bkV_out hn]; rfl
theorem own_P {f : Str → Int} (h : ∀ m ∈ NL, m ∉ NW → f m = 0) : ∀ x ∈ NL, (f x != 0) = true → x ∈ NW := fun x hx e => by
  by_cases hw : x ∈ NW
  · exact hw
  · rw [h x hx hw] at e
    exact absurd e (by decide)
theorem ren_wv (b : Bk β) {c : Int} {f G G' : Str → Int} (h : ∀ m ∈ NL, m ∉ NW → f m = 0) (hG : ∀ x ∈ NW, G' (β x) = G x) : wv c (bkV β 0 f) G' = wv c f G := by
  have p := (ren_perm b (own_P h) (F := f) (z := 0)).map fun q => q.2 * G' q.1
  rw [List.map_map, List.map_map] at p
  have e := perm_sum p
  have e1 : ((NL.filter (bkV β false fun x => f x != 0)).map ((fun q : Str × Int => q.2 * G' q.1) ∘ fun m => (m, bkV β 0 f m))).sum = (NL.map fun m => bkV β 0 f m * G' m).sum := by
    rw [← ren_row b h]
    exact sum_row (bkV β 0 f) G' NL
  have e2 : ((NL.filter fun x => f x != 0).map ((fun q : Str × Int => q.2 * G' q.1) ∘ fun x => (β x, f x))).sum = (NL.map fun m => f m * G m).sum := by
    rw [← sum_row f G NL]
    congr 1
    apply List.map_congr_left
    intro x hx
    obtain ⟨h1, h2⟩ := List.mem_filter.mp hx
    show f x * G' (β x) = _
    rw [hG x (own_P h x h1 h2)]
  unfold wv
  rw [← e1, e, e2]
end
end K06T
end Z


/-! K06R: formulas, their names exchanged. -/
namespace Z
namespace K06T
open PySem L2
def bw (β : Str → Str) : List (Key × D) := NW.map fun x => (Sum.inr x, D.str (β x))
theorem getK_map {β : Str → Str} : ∀ {l : List Str} {x : Str}, x ∈ l → getK (l.map fun x => ((Sum.inr x : Key), D.str (β x))) (Sum.inr x) = some (.str (β x))
  | y :: r, x, h => by
    unfold getK
    rw [List.map_cons, List.find?_cons]
    by_cases e : y = x
    · subst e; simp
    · have h1 : decide ((Sum.inr y : Key) = Sum.inr x) = false := decide_eq_false (by simpa using e)
      simp only [h1]
      have h2 := getK_map (β := β) (l := r) (x := x) (by
        rcases List.mem_cons.mp h with h | h
        · exact absurd h.symm e
        · exact h)
      unfold getK at h2
      exact h2
theorem fold_map {β : Str → Str} : ∀ (l : List Str) (acc : List (Key × D)), l.Nodup → (∀ x ∈ l, (Sum.inr x : Key) ∉ acc.map (·.1)) → ((l.map fun x => ((Sum.inr x : Key), D.str (β x))).foldl (fun a kv => putD kv.1 kv.2 a) acc) = acc ++ l.map fun x => ((Sum.inr x : Key), D.str (β x))
  | [], acc, _, _ => by simp
  | x :: r, acc, nd, h => by
    obtain ⟨n1, n2⟩ := List.nodup_cons.mp nd
    have e : putD (Sum.inr x) (D.str (β x)) acc = acc ++ [(Sum.inr x, .str (β x))] := by
      unfold putD
      rw [if_neg]
      rw [List.any_eq_true]
      rintro ⟨kv, h1, h2⟩
      exact h x List.mem_cons_self (List.mem_map.mpr ⟨kv, h1, of_decide_eq_true h2⟩)
    rw [List.map_cons, List.foldl_cons]
    show (List.foldl _ (putD (Sum.inr x) (D.str (β x)) acc) _) = _
    rw [e, fold_map r _ n2 fun m hm => ?_]
    · simp
    · rw [List.map_append, List.mem_append]
      rintro (z | z)
      · exact h m (List.mem_cons_of_mem _ hm) z
      · simp at z
        subst z
        exact n1 hm
theorem keys_NW : ∀ l : List Str, keysL (l.map D.str) = some (l.map Sum.inr)
  | [] => rfl
  | x :: r => by rw [List.map_cons, keysL, keys_NW r]; rfl
theorem zip_maps {β : Str → Str} : ∀ l : List Str, (l.map (Sum.inr : Str → Key)).zip (l.map fun x => D.str (β x)) = l.map fun x => ((Sum.inr x : Key), D.str (β x))
  | [] => rfl
  | x :: r => by rw [List.map_cons, List.map_cons, List.zip_cons_cons, zip_maps r, List.map_cons]
theorem book_ok {β : Str → Str} {M : Sto} : biD .dzip false [.lst (NW.map D.str), .lst (NW.map fun x => D.str (β x))] M = .ok (.loc M.length) (M ++ [.dct (bw β)]) := by
  show ((ofO (keysL (NW.map D.str)) M).bind fun ks M => Res.ok (D.loc M.length) (M ++ [.dct ((ks.zip (NW.map fun x => D.str (β x))).foldl (fun a kv => putD kv.1 kv.2 a) [])])) = _
  rw [keys_NW]
  show Res.ok _ _ = _
  rw [zip_maps, fold_map NW [] NW_nd (fun _ _ h => by simp at h)]
  rfl
mutual
def Fm.ren (β : Str → Str) : Fm → Fm
  | .fact c f => .fact c (bkV β 0 f)
  | .yes => .yes
  | .no => .no
  | .nd a ps => .nd a (Fm.rens β ps)
def Fm.rens (β : Str → Str) : List Fm → List Fm
  | [] => []
  | p :: r => Fm.ren β p :: Fm.rens β r
end
theorem rens_map {β : Str → Str} : ∀ ps : List Fm, Fm.rens β ps = ps.map (Fm.ren β)
  | [] => rfl
  | p :: r => by rw [Fm.rens, rens_map r]; rfl
section
variable {β : Str → Str} {b : Nat} {F : Fm}
mutual
theorem ren_dp : ∀ F : Fm, (F.ren β).dp = F.dp
  | .fact _ _ => rfl
  | .yes => rfl
  | .no => rfl
  | .nd a ps => by rw [Fm.ren, Fm.dp, Fm.dp, rens_dp ps]
theorem rens_dp : ∀ ps : List Fm, Fm.dps (Fm.rens β ps) = Fm.dps ps
  | [] => rfl
  | p :: r => by rw [Fm.rens, Fm.dps, Fm.dps, ren_dp p, rens_dp r]
end
mutual
theorem ren_sz : ∀ F : Fm, (F.ren β).sz = F.sz
  | .fact _ _ => rfl
  | .yes => rfl
  | .no => rfl
  | .nd a ps => by rw [Fm.ren, Fm.sz, Fm.sz, rens_sz ps]
theorem rens_sz : ∀ ps : List Fm, Fm.szs (Fm.rens β ps) = Fm.szs ps
  | [] => rfl
  | p :: r => by rw [Fm.rens, Fm.szs, Fm.szs, ren_sz p, rens_sz r]
end
theorem ren_ok (k : Bk β) (h : F.Ok b) : (F.ren β).Ok b := by
  induction h with
  | @fact c f s =>
    rw [Fm.ren]
    refine .fact ⟨s.c, fun m hm => ?_⟩
    rcases bkV_cases k 0 f m with ⟨x, hx, _, e⟩ | ⟨_, e⟩
    · rw [e]; exact s.f x (NW_NL x hx)
    · rw [e]; exact Nat.two_pow_pos _
  | yes => exact .yes
  | no => exact .no
  | @nd a ps h1 h2 ih =>
    rw [Fm.ren, rens_map]
    refine .nd (by rw [List.length_map]; exact h1) fun p hp => ?_
    obtain ⟨q, hq, rfl⟩ := List.mem_map.mp hp
    exact ih q hq
theorem ren_hld {G G' : Str → Int} (k : Bk β) (h : F.Own) (hG : ∀ x ∈ NW, G' (β x) = G x) : (F.ren β).hld G' = F.hld G := by
  induction h with
  | @fact c f s => rw [Fm.ren, Fm.hld, Fm.hld, ren_wv k s hG]
  | yes => rfl
  | no => rfl
  | @nd a ps h2 ih =>
    have e : (ps.map (Fm.ren β)).map (Fm.hld G') = ps.map (Fm.hld G) := by
      rw [List.map_map]
      exact List.map_congr_left fun p hp => ih p hp
    rw [Fm.ren, Fm.hld, Fm.hld, rens_map, alls_map, anys_map, alls_map, anys_map, e]
mutual
theorem ren_uses (k : Bk β) (m : Str) : ∀ F : Fm, (F.ren β).uses m = bkV β false (fun x => F.uses x) m
  | .fact c f => by
    rw [Fm.ren, Fm.uses]
    rcases bkV_cases k 0 f m with ⟨x, hx, rfl, e⟩ | ⟨hn, e⟩
    · rw [e, bkV_at k hx, Fm.uses]
    · rw [e, bkV_out hn]; rfl
  | .yes => by
    rw [Fm.ren, Fm.uses]
    rcases bkV_cases k false (fun x => Fm.uses x .yes) m with ⟨x, hx, rfl, e⟩ | ⟨hn, e⟩
    · rw [e, Fm.uses]
    · rw [e]
  | .no => by
    rw [Fm.ren, Fm.uses]
    rcases bkV_cases k false (fun x => Fm.uses x .no) m with ⟨x, hx, rfl, e⟩ | ⟨hn, e⟩
    · rw [e, Fm.uses]
    · rw [e]
  | .nd a ps => by
    rw [Fm.ren, Fm.uses, rens_uses k m ps]
    rcases bkV_cases k false (fun x => Fm.usess x ps) m with ⟨x, hx, rfl, e⟩ | ⟨hn, e⟩
    · rw [e, bkV_at k hx, Fm.uses]
    · rw [e, bkV_out hn]
theorem rens_uses (k : Bk β) (m : Str) : ∀ ps : List Fm, Fm.usess m (Fm.rens β ps) = bkV β false (fun x => Fm.usess x ps) m
  | [] => by
    rw [Fm.rens, Fm.usess]
    rcases bkV_cases k false (fun x => Fm.usess x []) m with ⟨x, hx, rfl, e⟩ | ⟨hn, e⟩
    · rw [e, Fm.usess]
    · rw [e]
  | p :: r => by
    rw [Fm.rens, Fm.usess, ren_uses k m p, rens_uses k m r]
    rcases bkV_cases k false (fun x => Fm.usess x (p :: r)) m with ⟨x, hx, rfl, e⟩ | ⟨hn, e⟩
    · rw [e, bkV_at k hx, bkV_at k hx, Fm.usess]
    · rw [e, bkV_out hn, bkV_out hn]; rfl
end
theorem own_uses {x : Str} (h : F.Own) (hx : x ∈ NL) (hu : F.uses x = true) : x ∈ NW := by
  induction h with
  | fact s => rw [Fm.uses] at hu; exact own_P s x hx hu
  | yes => cases hu
  | no => cases hu
  | @nd a ps h2 ih =>
    rw [Fm.uses] at hu
    clear h2
    induction ps with
    | nil => cases hu
    | cons p r ih2 =>
      rw [Fm.usess, Bool.or_eq_true] at hu
      rcases hu with hu | hu
      · exact ih p List.mem_cons_self hu
      · exact ih2 (fun q hq => ih q (List.mem_cons_of_mem _ hq)) hu
theorem sortp_ok {ps : List (Str × Int)} {M : Sto} (h : ps.length ≤ 1000) : biD .sortp false [.lst (ps.map prS)] M = .ok (.lst ((sortP ps).map prS)) M := by
  have e : ∀ l : List (Str × Int), prsS (l.map prS) = some l := by
    intro l
    induction l with
    | nil => rfl
    | cons p r ih => rw [List.map_cons]; show (prsS (r.map prS)).map _ = _; rw [ih]; rfl
  have hf : fitLen ps.length = true := decide_eq_true (by omega)
  show ((ofO (prsS (ps.map prS)) M).bind fun ps M => if fitLen ps.length = true then newList false ((sortP ps).map prS) M else .fail) = _
  rw [e]
  show (if fitLen ps.length = true then newList false ((sortP ps).map prS) M else .fail) = _
  rw [if_pos hf]; rfl
theorem pr_prs {l : List Str} {f : Str → Int} : (l.map fun m => (m, f m)).map prS = prsD l f := by rw [List.map_map]; rfl
theorem renamed_ok (k : Bk β) (h : F.Ok b) (ho : F.Own) (hs : F.sz ≤ 4000) : ∀ (m : Nat) (a : Nat) (M : Sto), M[a]? = some (.dct (bw β)) → F.dp ≤ m → callN T m "_law_renamed" [F.d, .loc a] M = .ok (F.ren β).d M := by
  obtain ⟨w1, w2, w3, w4, w5, w6, w7, w8, w9⟩ := wd_ne
  induction h with
  | @fact c f s =>
    intro m a M hM hm
    obtain ⟨m', rfl⟩ : ∃ m', m = m' + 1 := ⟨m - 1, by rw [Fm.dp] at hm; omega⟩
    cases ho with
    | fact ho =>
      refine own_callM (fn := f_law_renamed) (by kernel_rfl) rfl rfl (ren_ok k (.fact s)).pure ⟨[], ?_⟩
      rw [List.append_nil, Fm.ren, Fm.d, Fm.d]
      have g1 : compGo (.t [3, 4]) (fun _ M => .ok true M) (fun env M => evE (callN T m') f_law_renamed_c0 env M) [some (.tup [.str "fact", fmD c f]), some (.loc a), none, none, none] (prsD (rowL f) f) M = .ok (((rowL f).map fun x => (β x, f x)).map prS) M := by
        rw [comp_pure (p := fun _ => true) (q := fun d => (match d with | .tup [.str x, .int i] => .tup [.str (β x), .int i] | _ => .non)) fun d hd => ?_]
        · rw [List.filter_eq_self.mpr (fun _ _ => rfl), prsD, List.map_map, List.map_map]; rfl
        · obtain ⟨z, hz, rfl⟩ := List.mem_map.mp hd
          obtain ⟨z1, z2⟩ := List.mem_filter.mp hz
          have g := ix_dct (x := z) hM
          rw [show bw β = NW.map fun x => ((Sum.inr x : Key), D.str (β x)) from rfl, getK_map (own_P ho z z1 z2)] at g
          exact ⟨_, rfl, rfl, fun _ => by simp [f_law_renamed_c0, g]⟩
      have hl : (rowL f).length ≤ 12 := Nat.le_trans (row_sub f).length_le NL_few
      have g2 := sortp_ok (M := M) (ps := (rowL f).map fun x => (β x, f x)) (by rw [List.length_map]; omega)
      have e := ren_sort k (own_P ho) (F := f)
      rw [show (NL.filter fun x => f x != 0) = rowL f from rfl, ← ren_row k ho] at e
      rw [e, pr_prs] at g2
      simp only [fmD] at g1 ⊢
      simp [f_law_renamed, w1] at g1 ⊢
      rw [g1]
      simp at g2
      simp [g2]
  | yes =>
    intro m a M hM hm
    obtain ⟨m', rfl⟩ : ∃ m', m = m' + 1 := ⟨m - 1, by rw [Fm.dp] at hm; omega⟩
    refine own_callM (fn := f_law_renamed) (by kernel_rfl) rfl rfl rfl ⟨[], ?_⟩
    rw [List.append_nil, Fm.ren, Fm.d]
    have g2 : binD .add (.tup [.str "yes"]) (.tup []) M = .ok (.tup [.str "yes"]) M := bn_catT (xs := [.str "yes"]) (ys := []) (by decide)
    simp [f_law_renamed, w8, slcD, cut01, cut1n]
    unfold compGo
    simp [g2]
  | no =>
    intro m a M hM hm
    obtain ⟨m', rfl⟩ : ∃ m', m = m' + 1 := ⟨m - 1, by rw [Fm.dp] at hm; omega⟩
    refine own_callM (fn := f_law_renamed) (by kernel_rfl) rfl rfl rfl ⟨[], ?_⟩
    rw [List.append_nil, Fm.ren, Fm.d]
    have g2 : binD .add (.tup [.str "no"]) (.tup []) M = .ok (.tup [.str "no"]) M := bn_catT (xs := [.str "no"]) (ys := []) (by decide)
    simp [f_law_renamed, w9, slcD, cut01, cut1n]
    unfold compGo
    simp [g2]
  | @nd e ps h1 h2 ih =>
    intro m a M hM hm
    rw [Fm.dp] at hm
    rw [Fm.sz] at hs
    obtain ⟨m', rfl⟩ : ∃ m', m = m' + 1 := ⟨m - 1, by omega⟩
    cases ho with
    | nd ho =>
      refine own_callM (fn := f_law_renamed) (by kernel_rfl) rfl rfl (ren_ok k (.nd h1 h2)).pure ⟨[], ?_⟩
      rw [List.append_nil, Fm.ren, Fm.d, Fm.d, ds_map, ds_map, rens_map, List.map_map]
      have g1 : compGo (.n 2) (fun _ M => .ok true M) (fun env M => evE (callN T m') f_law_renamed_c1 env M) [some (.tup (.str (wrd e) :: ps.map Fm.d)), some (.loc a), none, none, none] (ps.map Fm.d) M = .ok (ps.map fun p => (p.ren β).d) M := comp_fm fun p hp => by
        have g := ih p hp (ho p hp) (by have : p.sz ≤ Fm.szs ps := sz_mem hp; omega) m' a M hM (by have : p.dp ≤ Fm.dps ps := dps_le hp; omega)
        simp [f_law_renamed_c1, g]
      have g2 : ∀ y : D, binD .add (.tup [y]) (.tup (ps.map fun p => (p.ren β).d)) M = .ok (.tup (y :: ps.map fun p => (p.ren β).d)) M := fun y => bn_catT (decide_eq_true (by rw [List.length_map]; have := szs_len ps; simp; omega))
      cases e
      · simp [wrd] at g1
        simp [f_law_renamed, wrd, w3, slcD, cut1, cut01]
        rw [g1]
        simp [g2]
      · simp [wrd] at g1
        simp [f_law_renamed, wrd, w2, slcD, cut1, cut01]
        rw [g1]
        simp [g2]
end
end K06T
end Z


/-! K06D: the steps there and back. -/
namespace Z
namespace K06T
open PySem L2
variable {Rs : Sto} {n : Nat} {F : Fm}
theorem row_of {l : List Str} {f : Str → Int} (hp : l.Pairwise (fun a b => ltStr a b = true)) (hs : ∀ x ∈ l, x ∈ NL) (hf : ∀ x ∈ NL, f x ≠ 0 ↔ x ∈ l) : rowL f = l := by
  have hn : l.Nodup := hp.imp fun {x y} hl e => by
    subst e
    rw [ltStr_irr] at hl
    cases hl
  refine sorted_one (lt_le (NL_asc.sublist (row_sub f))) (lt_le hp) ?_
  refine (List.perm_ext_iff_of_nodup (rowL_nd f) hn).mpr fun x => ?_
  unfold rowL
  rw [List.mem_filter]
  constructor
  · rintro ⟨h1, h2⟩
    exact (hf x h1).mp (by simpa using h2)
  · intro h
    exact ⟨hs x h, by simpa using (hf x (hs x h)).mpr h⟩
def sF (y : Str) (a : Int) (m : Str) : Int := if m = y then a else 0
theorem sF_d {y : Str} {a c : Int} (hy : y ∈ NL) (ha : a ≠ 0) : D.tup [.int c, .tup [.tup [.str y, .int a]]] = fmD c (sF y a) := by
  have hr : rowL (sF y a) = [y] := row_of (List.pairwise_singleton _ _) (fun z hz => by rw [List.mem_singleton] at hz; subst hz; exact hy) fun z _ => by
    unfold sF
    by_cases e : z = y <;> simp [e, ha]
  unfold fmD prsD
  rw [hr]
  simp [sF]
theorem sF_sm {y : Str} {a c : Int} {k : Nat} (hc : c.natAbs < 2 ^ k) (ha : a.natAbs < 2 ^ k) : Sm k c (sF y a) := ⟨hc, fun m _ => by
  unfold sF
  split
  · exact ha
  · exact Nat.two_pow_pos _⟩
def Stp.ok3 (s : Stp) : Prop := s.x ∈ NW ∧ Sm 3 s.c s.f
theorem late_snoc : ∀ (st : List Stp) (s : Stp) (G : Str → Int), lateG (st ++ [s]) G = lateG st fun m => if m = s.x then wv s.c s.f G else G m
  | [], s, G => rfl
  | t :: r, s, G => by
    rw [List.cons_append, lateG, lateG, late_snoc r s G]
theorem steps_loop {p0 p2 p4 p5 p6 p7 p8 p9 p10 p11 p13 p14 p19 p20 : Option D} (F : Fm) : ∀ (l : List D) (st : List Stp) (found : Fm) (t : Bool) (k : Nat) (M : Sto) (x3 x12 x18 : Option D), Deal Rs M → (∀ s ∈ st, s.ok3) → found.Ok (100 + 4 * k) → found.dp ≤ 4 → found.sz ≤ 64 → k + l.length ≤ 10 → st.length + l.length ≤ 10 → (∀ G, found.hld G = (F.hld (lateG st G) != t)) →
    ∃ (st' : List Stp) (found' : Fm) (t' : Bool) (M' : Sto) (y3 y12 y18 : Option D), forGo (.n 3) (fun env M => evSs (callN T (n + 40)) f_law_b0 env M) l [p0, some (.loc 1), p2, x3, p4, p5, p6, p7, p8, p9, p10, p11, x12, p13, p14, some found.d, some (.lst (st.map Stp.d)), some (.bl t), x18, p19, p20] M =
      .ok (.nx [p0, some (.loc 1), p2, y3, p4, p5, p6, p7, p8, p9, p10, p11, y12, p13, p14, some found'.d, some (.lst (st'.map Stp.d)), some (.bl t'), y18, p19, p20]) M' ∧ Deal Rs M' ∧ (∀ s ∈ st', s.ok3) ∧ found'.Ok 140 ∧ found'.dp ≤ 4 ∧ found'.sz ≤ 64 ∧ st'.length ≤ 10 ∧ ∀ G, found'.hld G = (F.hld (lateG st' G) != t')
  | [], st, found, t, k, M, x3, x12, x18, d, h1, h2, h3, h4, hk, hl, h5 => ⟨st, found, t, M, x3, x12, x18, rfl, d, h1, h2.up (by simp at hk; omega), h3, h4, by simpa using hl, h5⟩
  | i :: r, st, found, t, k, M, x3, x12, x18, d, h1, h2, h3, h4, hk, hl, h5 => by
    rw [List.length_cons] at hk hl
    obtain ⟨q, M1, a1, d1, q0, q1⟩ := law_any_ok (n := n + 39) (bound := 3) d (by decide) (by decide +kernel)
    by_cases hq : q = 0
    · subst hq
      have g := opposite_ok (n := n + 33) h2 (by omega) (by omega) (by omega) (by omega) M1
      obtain ⟨st', found', t', M', y3, y12, y18, e, r1, r2, r3, r4, r5, r6, r7⟩ := steps_loop F r st found.opp (!t) (k + 1) M1 (some i) x12 x18 d1 h1 ((opp_ok h2).up (by omega)) (by rw [opp_dp]; exact h3) (by rw [opp_sz]; exact h4) (by omega) (by omega) fun G => by
        rw [opp_hld h2, h5 G]
        cases F.hld (lateG st G) <;> cases t <;> rfl
      refine ⟨st', found', t', M', y3, y12, y18, ?_, r1, r2, r3, r4, r5, r6, r7⟩
      unfold forGo
      simp [f_law_b0, a1, g]
      exact e
    · obtain ⟨x, hx, M2, a2, d2⟩ := law_unknown_ok (n := n + 37) d1
      obtain ⟨c, M3, a3, d3, c0, c1⟩ := law_any_ok (n := n + 39) (bound := 9) d2 (by decide) (by decide +kernel)
      obtain ⟨y, hy, M4, a4, d4⟩ := law_unknown_ok (n := n + 37) d3
      obtain ⟨z, hz, M5, a5, d5⟩ := law_of_ok (n := n + 38) (xs := [.int 1, .int (-1), .int 2]) d4 (by decide) (by decide)
      obtain ⟨a, ha0, ha1, rfl⟩ : ∃ a : Int, a ≠ 0 ∧ a.natAbs < 2 ^ 3 ∧ z = .int a := by
        simp only [List.mem_cons, List.not_mem_nil, or_false] at hz
        rcases hz with h | h | h
        · exact ⟨1, by decide, by decide, h⟩
        · exact ⟨-1, by decide, by decide, h⟩
        · exact ⟨2, by decide, by decide, h⟩
      have hf := sF_d (c := c - 4) (NW_NL y hy) ha0
      have s3 : Sm 3 (c - 4) (sF y a) := sF_sm (by omega) ha1
      have g := put_in_ok (n := n + 33) (NW_NL x hx) h2 (by omega) s3 (by decide) (by omega) (by omega) (by omega) M5
      have g2 := bn_cat (M := M5) (xs := st.map Stp.d) (ys := [.tup [.str x, fmD (c - 4) (sF y a)]]) (decide_eq_true (by simp; omega))
      have e0 : (st ++ [Stp.mk x (c - 4) (sF y a)]).map Stp.d = st.map Stp.d ++ [.tup [.str x, fmD (c - 4) (sF y a)]] := by rw [List.map_append]; rfl
      obtain ⟨st', found', t', M', y3, y12, y18, e, r1, r2, r3, r4, r5, r6, r7⟩ := steps_loop F r (st ++ [Stp.mk x (c - 4) (sF y a)]) (found.put x (c - 4) (sF y a)) t (k + 1) M5 (some i) (some (fmD (c - 4) (sF y a))) (some (.str x)) d5 (fun s hs => by
          rcases List.mem_append.mp hs with hs | hs
          · exact h1 s hs
          · rw [List.mem_singleton] at hs; subst hs; exact ⟨hx, s3⟩) ((put_ok' (NW_NL x hx) h2 s3).up (by omega)) (by rw [put_dp]; exact h3) (by rw [put_sz]; exact h4) (by omega) (by rw [List.length_append]; simp; omega) fun G => by
        rw [put_hld (NW_NL x hx) h2, h5, late_snoc]
      refine ⟨st', found', t', M', y3, y12, y18, ?_, r1, r2, r3, r4, r5, r6, r7⟩
      rw [e0] at e
      have hq2 : decide (q = 0) = false := decide_eq_false hq
      unfold forGo
      simp [f_law_b0, a1, hq, a2, a3, a4, a5, hf, g, g2]
      exact e
theorem late_loop {G : Str → Int} {p0 p1 p2 p3 p5 p6 p7 p8 p9 p10 p11 p13 p14 p15 p16 p17 p19 p20 : Option D} : ∀ (l suf : List Stp) (S : Str → Bool) (g : Str → Int) (M : Sto) (x12 x18 : Option D), (∀ s ∈ l, s.ok3) → (∀ m ∈ NL, gW S g m = lateG suf G m) → (∀ m ∈ NL, (gW S g m).natAbs < 2 ^ (100 + 8 * suf.length)) → l.length + suf.length ≤ 10 →
    ∃ S' g' y12 y18, forGo (.t [18, 12]) (fun env M => evSs (callN T (n + 40)) f_law_b1 env M) (l.map Stp.d) [p0, p1, p2, p3, some (wtD S g), p5, p6, p7, p8, p9, p10, p11, x12, p13, p14, p15, p16, p17, x18, p19, p20] M = .ok (.nx [p0, p1, p2, p3, some (wtD S' g'), p5, p6, p7, p8, p9, p10, p11, y12, p13, p14, p15, p16, p17, y18, p19, p20]) M ∧ (∀ m ∈ NL, gW S' g' m = lateG (l.reverse ++ suf) G m) ∧ (∀ m ∈ NL, (gW S' g' m).natAbs < 2 ^ 200)
  | [], suf, S, g, M, x12, x18, ho, h1, h2, hl => ⟨S, g, x12, x18, rfl, h1, fun m hm => up (h2 m hm) (by simp at hl; omega)⟩
  | s :: r, suf, S, g, M, x12, x18, ho, h1, h2, hl => by
    rw [List.length_cons] at hl
    obtain ⟨hx, hf⟩ := ho s List.mem_cons_self
    have k1 := worth_ok (n := n + 35) (c := s.c) (f := s.f) (S := S) (g := g) (fun m hm => mul1 (hf.f m hm) (by decide) (h2 m hm) (by omega)) M
    have k2 := law_with_ok (n := n + 39) (S := S) (g := g) (v := wv s.c s.f (gW S g)) (NW_NL s.x hx) M
    have hv : ∀ m, gW (fun n => S n || decide (n = s.x)) (fun n => if n = s.x then wv s.c s.f (gW S g) else g n) m = if m = s.x then wv s.c s.f (gW S g) else gW S g m := by
      intro m
      unfold gW
      by_cases e : m = s.x <;> simp [e]
    obtain ⟨S', g', y12, y18, g1, g2, g3⟩ := late_loop (G := G) (p0 := p0) (p1 := p1) (p2 := p2) (p3 := p3) (p5 := p5) (p6 := p6) (p7 := p7) (p8 := p8) (p9 := p9) (p10 := p10) (p11 := p11) (p13 := p13) (p14 := p14) (p15 := p15) (p16 := p16) (p17 := p17) (p19 := p19) (p20 := p20) r (s :: suf) (fun n => S n || decide (n = s.x)) (fun n => if n = s.x then wv s.c s.f (gW S g) else g n) M (some (fmD s.c s.f)) (some (.str s.x)) (fun t ht => ho t (List.mem_cons_of_mem _ ht)) (fun m hm => by
      rw [hv, wv_congr h1, h1 m hm]; rfl) (fun m hm => by
      rw [hv]
      split
      · exact up (wv_small hf h2) (by rw [List.length_cons]; omega)
      · exact up (h2 m hm) (by rw [List.length_cons]; omega)) (by rw [List.length_cons]; omega)
    refine ⟨S', g', y12, y18, ?_, fun m hm => ?_, g3⟩
    · rw [List.map_cons]
      unfold forGo
      simp [f_law_b1, Stp.d, k1, k2]
      exact g1
    · rw [g2 m hm, List.reverse_cons, List.append_assoc]; rfl
end K06T
end Z


/-! K06L: the law (printed by k06l.py). -/
namespace Z
namespace K06T
open PySem L2
variable {Rs : Sto} {n : Nat} {F : Fm}
theorem stepS {C : Calls} {s : S} {r : Ss} {env env1 : En} {M M1 : Sto} (h : evS C s env M = .ok (.nx env1) M1) : evSs C (.cons s r) env M = evSs C r env1 M1 := by
  rw [es_cons, h]
  rfl
theorem wt_holds {S : Str → Bool} {g : Str → Int} {b : Nat} (h : F.Ok b) (hd : F.dp ≤ 20) (hs : F.sz ≤ 4000) (hb : b ≤ 900000) (hG : ∀ m ∈ NL, (gW S g m).natAbs < 2 ^ 100) : Calc (callN T (n + 40)) "holds" [F.d, wtD S g] (.bl (F.hld (gW S g))) :=
  holds_ok (n := n + 33) h (by omega) (by omega) (by omega) hb (k := 100) (by decide) hG wd_WK (checked_worths_ok (n := n + 36)) fun M => dict_wt
theorem bd_sorted_strs {bs : List Str} {M : Sto} (h : bs.length ≤ 1000) : biD .sorted false [.lst (bs.map .str)] M = .ok (.lst ((sortStr bs).map .str)) M := by
  have := bd_sorted (m := false) (M := M) (bs := bs) (by omega)
  exact this
theorem any_and {f : Bool} : ∀ l : List Bool, (l.map fun p => (f && (p && true))).any id = (f && (l.any id && true))
  | [] => by cases f <;> rfl
  | p :: r => by
    rw [List.map_cons, List.any_cons, List.any_cons, any_and r]
    cases f <;> cases p <;> rfl
structure GS (F : Fm) : Prop where
  ok : F.Ok 100
  dp : F.dp ≤ 3
  sz : F.sz ≤ 16
theorem form_ok {c : Int} {f : Str → Int} : Calc (callN T (n + 3)) "is_form" [fmD c f] (.bl true) := is_form_ok
theorem unk_ok {y : Str} (hy : y ∈ NL) : Calc (callN T (n + 1)) "unknown" [.str y] (fmD 0 (sF y 1)) := by
  rw [← sF_d hy (by decide)]
  exact own_call (fn := f_unknown) (by kernel_rfl) rfl rfl rfl fun M => ⟨[], by rw [List.append_nil]; simp [f_unknown]⟩
theorem sort_ren {β : Str → Str} (k : Bk β) {P : Str → Bool} (hP : ∀ x ∈ NL, P x = true → x ∈ NW) : sortStr ((NL.filter P).map β) = NL.filter (bkV β false P) := by
  refine sorted_one (sortStr_sorted _) ((lt_le NL_asc).sublist List.filter_sublist) ((sortStr_perm _).trans ?_)
  have p := (ren_perm k hP (F := fun _ => (0 : Int)) (z := 0)).map (·.1)
  rw [List.map_map, List.map_map] at p
  have e1 : ((NL.filter (bkV β false P)).map ((fun q : Str × Int => q.1) ∘ fun m => (m, bkV β 0 (fun _ => 0) m))) = NL.filter (bkV β false P) := by
    rw [show ((fun q : Str × Int => q.1) ∘ fun m => (m, bkV β 0 (fun _ => 0) m)) = fun m => m from rfl, List.map_id']
  have e2 : ((NL.filter P).map ((fun q : Str × Int => q.1) ∘ fun x => (β x, (0 : Int)))) = (NL.filter P).map β := rfl
  rw [e1, e2] at p
  exact p.symm
theorem parts_ok {M : Sto} (d : Deal Rs M) : ∃ (r : Int) (M1 M2 : Sto) (ps : List Fm), callN T (n + 40) "_law_any" [.loc 1, .int 3] M = .ok (.int r) M1 ∧ fitLen (2 + r).natAbs = true ∧
    (∀ env : En, env.length = 21 → env[1]? = some (some (.loc 1)) → compGo (.n 3) (fun _ M => .ok true M) (fun env M => evE (callN T (n + 40)) f_law_c2 env M) env (rngD 0 (2 + r).toNat) M1 = .ok (ps.map Fm.d) M2) ∧ Deal Rs M2 ∧ ps.length ≤ 10 ∧ ∀ p ∈ ps, GS p := by
  obtain ⟨r, M1, a1, d1, r0, r1⟩ := law_any_ok (n := n + 39) (bound := 3) d (by decide) (by decide +kernel)
  have hP : ∀ k (M : Sto), Deal Rs M → ∃ (ps : List Fm) (M2 : Sto), (∀ env : En, env.length = 21 → env[1]? = some (some (.loc 1)) → ∀ lo : Int, compGo (.n 3) (fun _ M => .ok true M) (fun env M => evE (callN T (n + 40)) f_law_c2 env M) env (rngD lo k) M = .ok (ps.map Fm.d) M2) ∧ Deal Rs M2 ∧ ps.length = k ∧ ∀ p ∈ ps, GS p := by
    intro k
    induction k with
    | zero => exact fun M d => ⟨[], M, fun _ _ _ _ => rfl, d, rfl, (fun _ h => by cases h)⟩
    | succ k ih =>
      intro M d
      obtain ⟨G, M', u1, u2, u3⟩ := law_formula_ok (n := n + 33) 2 1 M (by decide) d
      have u1 : callN T (n + 40) "_law_formula" [.loc 1, .int 1] M = .ok G.d M' := u1
      obtain ⟨ps, M2, h1, h2, h3, h4⟩ := ih M' u3
      refine ⟨G :: ps, M2, fun env he h0 lo => ?_, h2, by simp [h3], fun p hp => ?_⟩
      · rw [rngD]
        unfold compGo
        have e1 : (env.set 3 (some (.int lo)))[1]? = some (some (.loc 1)) := by rw [List.getElem?_set_ne (by decide)]; exact h0
        have e2 : evE (callN T (n + 40)) f_law_c2 (env.set 3 (some (.int lo))) M = .ok G.d M' := by simp [f_law_c2, e1, u1]
        show ((evE (callN T (n + 40)) f_law_c2 (env.set 3 (some (.int lo))) M).calm.bind fun y M2 => (compGo (.n 3) (fun _ M => .ok true M) (fun env M => evE (callN T (n + 40)) f_law_c2 env M) env (rngD (lo + 1) k) M2).bind fun ys M3 => Res.ok (y :: ys) M3) = _
        rw [e2]
        show (compGo (.n 3) (fun _ M => .ok true M) (fun env M => evE (callN T (n + 40)) f_law_c2 env M) env (rngD (lo + 1) k) M').bind (fun ys M3 => Res.ok (G.d :: ys) M3) = _
        rw [h1 env he h0]; rfl
      · rcases List.mem_cons.mp hp with rfl | hp
        · exact ⟨u2.ok, u2.dp, u2.sz⟩
        · exact h4 p hp
  obtain ⟨ps, M2, h1, h2, h3, h4⟩ := hP (2 + r).toNat M1 d1
  exact ⟨r, M1, M2, ps, a1, decide_eq_true (by omega), fun env he h0 => h1 env he h0 0, h2, by omega, h4⟩
theorem turn_ok {p0 x2 x3 x4 x5 x6 x7 x8 x9 x10 x11 x12 x13 x14 x15 x16 x17 x18 x19 x20 : Option D} {M : Sto} (d : Deal Rs M) :
    ∃ Rs' M' y2 y3 y4 y5 y6 y7 y8 y9 y10 y11 y12 y13 y14 y15 y16 y17 y18 y19 y20, evSs (callN T (n + 40)) f_law_b2 [p0, some (.loc 1), x2, x3, x4, x5, x6, x7, x8, x9, x10, x11, x12, x13, x14, x15, x16, x17, x18, x19, x20] M =
      .ok (.nx [p0, some (.loc 1), y2, y3, y4, y5, y6, y7, y8, y9, y10, y11, y12, y13, y14, y15, y16, y17, y18, y19, y20]) M' ∧ Deal Rs' M' := by
  obtain ⟨F, M1, a1, hF, d1⟩ := law_formula_ok (n := n + 32) 3 0 M (by decide) d
  have a1 : callN T (n + 40) "_law_formula" [.loc 1, .int 0] M = .ok F.d M1 := a1
  have hs : F.sz ≤ 64 := hF.sz
  have hd : F.dp ≤ 4 := hF.dp
  obtain ⟨S, g, M2, a2, hw, d2, hSW⟩ := law_worths_own (n := n + 36) d1
  obtain ⟨rk, hk, M3, a3, d3⟩ := law_of_ok (n := n + 38) (xs := [.int 2, .int 4, .int 6]) d2 (by decide) (by decide)
  obtain ⟨k, hk1, rfl⟩ : ∃ k : Int, k.natAbs ≤ 6 ∧ rk = .int k := by
    simp only [List.mem_cons, List.not_mem_nil, or_false] at hk
    rcases hk with h | h | h
    · exact ⟨2, by decide, h⟩
    · exact ⟨4, by decide, h⟩
    · exact ⟨6, by decide, h⟩
  have hkf : fitLen k.natAbs = true := decide_eq_true (by omega)
  obtain ⟨st, fo, t, M4, z3, z12, z18, a4, d4, h1, h2, h3, h4, h5, h6⟩ := steps_loop (n := n) (p0 := p0) (p2 := x2) (p4 := x4) (p5 := x5) (p6 := x6) (p7 := x7) (p8 := x8) (p9 := x9) (p10 := x10) (p11 := x11) (p13 := some F.d) (p14 := some (wtD S g)) (p19 := x19) (p20 := x20) F (rngD 0 k.toNat) [] F false 0 M3 x3 x12 x18 d3 (fun _ h => by cases h) hF.ok hd hs (by rw [rng_len]; omega) (by rw [rng_len]; simp; omega) (fun G => by rw [lateG]; cases F.hld G <;> rfl)
  obtain ⟨S', g', w12, w18, a5, h7, h8⟩ := late_loop (n := n) (G := gW S g) (p0 := p0) (p1 := some (.loc 1)) (p2 := x2) (p3 := z3) (p5 := x5) (p6 := x6) (p7 := x7) (p8 := x8) (p9 := x9) (p10 := x10) (p11 := x11) (p13 := some F.d) (p14 := some (wtD S g)) (p15 := some fo.d) (p16 := some (.lst (st.map Stp.d))) (p17 := some (.bl t)) (p19 := x19) (p20 := x20) st.reverse [] S g M4 z12 z18 (fun s hs => h1 s (List.mem_reverse.mp hs)) (fun _ _ => rfl) hw (by rw [List.length_reverse]; exact h5)
  rw [List.reverse_reverse, List.append_nil] at h7
  have k1 := is_formula_ok (n := n + 35) h2 (by omega) (by omega) M4
  have k2 := wt_holds (n := n) h2 (by omega) (by omega) (by decide) hw M4
  have k3 := law_holds_ok (k := 200) (by decide) (by decide) h8 hF.ok (n + 40) (by omega) M4
  rw [h6, hld_congr hF.ok (G' := gW S' g') fun m hm => (h7 m hm).symm] at k2
  have k4 := law_same_ok (k := 1) (n := n + 38) (d := .bl (F.hld (gW S' g') != t)) rfl M4
  generalize F.hld (gW S' g') = due at *
  have s1 : ∀ M, binD .mul (.str "0") (.int 58) M = .ok (.str "0000000000000000000000000000000000000000000000000000000000") M := fun M => by kernel_rfl
  have s2 : ∀ M, binD .add (.str "n") (.str "0000000000000000000000000000000000000000000000000000000000") M = .ok (.str "n0000000000000000000000000000000000000000000000000000000000") M := fun M => by kernel_rfl
  have s3 : ∀ M, binD .add (.str "n0000000000000000000000000000000000000000000000000000000000") (.str "#") M = .ok (.str "n0000000000000000000000000000000000000000000000000000000000#") M := fun M => by kernel_rfl
  have c1 : ∀ M, slcD false (.lst (NW.map D.str)) (some 3) none M = .ok (.lst ((NW.map D.str).drop 3)) M := fun M => by
    have e : cut (NW.map D.str) (some 3) none = (NW.map D.str).drop 3 := cut_from (k := 3)
    show newList false (cut (NW.map D.str) (some 3) none) M = _
    rw [e]; rfl
  have c2 : ∀ M, binD .add (.lst ((NW.map D.str).drop 3)) (.lst [.str "q7", .str "q8", .str "q9"]) M = .ok (.lst (TW.map D.str)) M := fun M => bn_cat (by decide)
  obtain ⟨zs, M5, a6, d5, b1, b2, b3⟩ := law_mixed_ok (n := n + 38) (xs := TW.map D.str) (P := fun d => ∃ x ∈ TW, d = .str x) (fun d hd => by
    obtain ⟨x, hx, rfl⟩ := hd
    exact str_fit (nm_fit x (TW_NL x hx))) (by decide) (fun d hd => by
    obtain ⟨x, hx, rfl⟩ := List.mem_map.mp hd
    exact ⟨x, hx, rfl⟩) d4
  obtain ⟨ms, rfl⟩ : ∃ ms : List Str, zs = ms.map D.str := by
    have key : ∀ l : List D, (∀ d ∈ l, ∃ x ∈ TW, d = D.str x) → ∃ ms : List Str, l = ms.map D.str := by
      intro l
      induction l with
      | nil => exact fun _ => ⟨[], rfl⟩
      | cons z r ih =>
        intro h
        obtain ⟨x, _, e⟩ := h z List.mem_cons_self
        obtain ⟨ms, e2⟩ := ih fun d hd => h d (List.mem_cons_of_mem _ hd)
        exact ⟨x :: ms, by rw [e, e2]; rfl⟩
    exact key zs b1
  have pm : ms.Perm TW := by
    have p := b3.map fun d => (match d with | .str x => x | _ => "")
    rw [List.map_map, List.map_map] at p
    have e1 : ms.map ((fun d => (match d with | .str x => x | _ => "")) ∘ D.str) = ms := List.map_id' ms
    have e2 : TW.map ((fun d => (match d with | .str x => x | _ => "")) ∘ D.str) = TW := List.map_id' TW
    rw [e1, e2] at p
    exact p
  obtain ⟨β, rfl⟩ := map_of (ms := ms) NW_nd (by rw [pm.length_eq]; rfl)
  have B : Bk β := ⟨pm⟩
  rw [List.map_map] at a6
  have a6 : callN T (n + 40) "_law_mixed" [.loc 1, .lst (TW.map D.str)] M4 = .ok (.lst (NW.map fun x => D.str (β x))) M5 := a6
  have a7 := book_ok (β := β) (M := M5)
  have d6 := d5.more [.dct (bw β)]
  have hat := at_last (M := M5) (o := .dct (bw β))
  have e1 : ∀ env : En, env.length = 21 → env[6]? = some (some (.loc M5.length)) → compGo (.t [18, 20]) (fun _ M => .ok true M) (fun env M => evE (callN T (n + 40)) f_law_c0 env M) env (prsD (NL.filter S) g) (M5 ++ [.dct (bw β)]) = .ok (((NL.filter S).map fun x => (β x, g x)).map prS) (M5 ++ [.dct (bw β)]) := by
    intro env he h0
    rw [comp_pure (p := fun _ => true) (q := fun d => (match d with | .tup [.str x, .int i] => .tup [.str (β x), .int i] | _ => .non)) fun d hd => ?_]
    · rw [List.filter_eq_self.mpr (fun _ _ => rfl), prsD, List.map_map, List.map_map]; rfl
    · obtain ⟨z, hz, rfl⟩ := List.mem_map.mp hd
      have q := ix_dct (x := z) hat
      rw [show bw β = NW.map fun x => ((Sum.inr x : Key), D.str (β x)) from rfl, getK_map (hSW z (List.mem_filter.mp hz).2)] at q
      have q1 : ((env.set 18 (some (.str z))).set 20 (some (.int (g z))))[18]? = some (some (.str z)) := by rw [List.getElem?_set_ne (by decide)]; exact List.getElem?_set_self (by omega)
      have q2 : ((env.set 18 (some (.str z))).set 20 (some (.int (g z))))[20]? = some (some (.int (g z))) := List.getElem?_set_self (by simp; omega)
      have q3 : ((env.set 18 (some (.str z))).set 20 (some (.int (g z))))[6]? = some (some (.loc M5.length)) := by rw [List.getElem?_set_ne (by decide), List.getElem?_set_ne (by decide)]; exact h0
      have q : idxD (M5 ++ [.dct (bw β)]) (.loc M5.length) (.str z) = some (.str (β z)) := q
      exact ⟨_, rfl, rfl, fun _ => by simp [f_law_c0, q1, q2, q3, q]⟩
  have hSl : (NL.filter S).length ≤ 12 := Nat.le_trans (List.length_filter_le _ _) NL_few
  have e2 := sortp_ok (M := M5 ++ [.dct (bw β)]) (ps := (NL.filter S).map fun x => (β x, g x)) (by rw [List.length_map]; omega)
  rw [ren_sort B (fun x _ hx => hSW x hx) (F := g), pr_prs] at e2
  have e3 := renamed_ok B hF.ok hF.own (by omega) (n + 40) M5.length (M5 ++ [.dct (bw β)]) hat (by omega)
  have hG : ∀ x ∈ NW, gW (bkV β false S) (bkV β 0 g) (β x) = gW S g x := fun x hx => by
    unfold gW
    rw [bkV_at B hx, bkV_at B hx]
  have hw2 : ∀ m ∈ NL, (gW (bkV β false S) (bkV β 0 g) m).natAbs < 2 ^ 100 := fun m hm => by
    rcases bkV_cases B false S m with ⟨x, hx, rfl, _⟩ | ⟨_, e⟩
    · rw [hG x hx]; exact hw x (NW_NL x hx)
    · unfold gW
      rw [e]
      exact Nat.two_pow_pos _
  have f1 := wt_holds (n := n) (F := F.ren β) (S := bkV β false S) (g := bkV β 0 g) (ren_ok B hF.ok) (by rw [ren_dp]; omega) (by rw [ren_sz]; omega) (by decide) hw2 (M5 ++ [.dct (bw β)])
  rw [ren_hld B hF.own hG] at f1
  have f2 := unknowns_ok (n := n + 33) (F := F.ren β) (ren_ok B hF.ok) (by rw [ren_dp]; omega) (by rw [ren_sz]; omega) (M5 ++ [.dct (bw β)])
  have f3 := law_holds_ok (k := 100) (by decide) (by decide) hw hF.ok (n + 40) (by omega) (M5 ++ [.dct (bw β)])
  have f4 := unknowns_ok (n := n + 33) (F := F) hF.ok (by omega) (by omega) (M5 ++ [.dct (bw β)])
  have hU : (fun x => (F.ren β).uses x) = bkV β false fun x => F.uses x := by funext m; exact ren_uses B m F
  rw [hU] at f2
  have f5 : ∀ env : En, env.length = 21 → env[6]? = some (some (.loc M5.length)) → compGo (.n 18) (fun _ M => .ok true M) (fun env M => evE (callN T (n + 40)) f_law_c1 env M) env ((NL.filter fun x => F.uses x).map D.str) (M5 ++ [.dct (bw β)]) = .ok (((NL.filter fun x => F.uses x).map β).map D.str) (M5 ++ [.dct (bw β)]) := by
    intro env he h0
    rw [comp_pure (p := fun _ => true) (q := fun d => (match d with | .str x => .str (β x) | _ => .non)) fun d hd => ?_]
    · rw [List.filter_eq_self.mpr (fun _ _ => rfl), List.map_map, List.map_map]; rfl
    · obtain ⟨z, hz, rfl⟩ := List.mem_map.mp hd
      obtain ⟨z1, z2⟩ := List.mem_filter.mp hz
      have q := ix_dct (x := z) hat
      rw [show bw β = NW.map fun x => ((Sum.inr x : Key), D.str (β x)) from rfl, getK_map (own_uses hF.own z1 z2)] at q
      have q1 : (env.set 18 (some (.str z)))[18]? = some (some (.str z)) := List.getElem?_set_self (by omega)
      have q3 : (env.set 18 (some (.str z)))[6]? = some (some (.loc M5.length)) := by rw [List.getElem?_set_ne (by decide)]; exact h0
      have q : idxD (M5 ++ [.dct (bw β)]) (.loc M5.length) (.str z) = some (.str (β z)) := q
      exact ⟨_, rfl, rfl, fun _ => by simp [f_law_c1, q1, q3, q]⟩
  have f6 := bd_sorted_strs (M := M5 ++ [.dct (bw β)]) (bs := (NL.filter fun x => F.uses x).map β) (by rw [List.length_map]; exact Nat.le_trans (List.length_filter_le _ _) (by decide))
  rw [sort_ren B fun x hx hu => own_uses hF.own hx hu] at f6
  have f7 : ∀ l : List D, biD .list false [.tup l] (M5 ++ [.dct (bw β)]) = .ok (.lst l) (M5 ++ [.dct (bw β)]) := fun l => rfl
  have f8 := law_same_ok (k := 3) (n := n + 36) (d := .lst [.bl (F.hld (gW S g)), .lst ((NL.filter (bkV β false fun x => F.uses x)).map D.str)]) (by
    show (true && (D.dats 1 ((NL.filter (bkV β false fun x => F.uses x)).map D.str) && true)) = true
    rw [dats_of fun d hd => by obtain ⟨x, _, rfl⟩ := List.mem_map.mp hd; rfl]; rfl) (M5 ++ [.dct (bw β)])
  obtain ⟨r, M6, M7, ps, g1, g2, g3, d7, g4, g5⟩ := parts_ok (n := n) d6
  have hp2 : ∀ p ∈ ps, p.Ok 100 ∧ p.dp ≤ 30 ∧ p.sz ≤ 1000 := fun p hp => ⟨(g5 p hp).ok, by have := (g5 p hp).dp; omega, by have := (g5 p hp).sz; omega⟩
  have hj : (joinF false ps).Ok 100 ∧ (joinF false ps).dp ≤ 4 ∧ (joinF false ps).sz ≤ 161 := by
    obtain ⟨j1, j2, j3⟩ := join_ok (a := false) (ps := ps) (k := 3) (s := 16) (fun p hp => ⟨(g5 p hp).ok, (g5 p hp).dp, (g5 p hp).sz⟩) (by decide) (by decide)
    have : ps.length * 16 ≤ 10 * 16 := Nat.mul_le_mul_right _ g4
    exact ⟨j1, j2, by omega⟩
  have l1 := some_of_ok (n := n + 39) hp2 (by omega) M7
  have hq2 : ∀ p ∈ [F, joinF false ps], p.Ok 100 ∧ p.dp ≤ 4 ∧ p.sz ≤ 161 := fun p hp => by
    simp only [List.mem_cons, List.not_mem_nil, or_false] at hp
    rcases hp with rfl | rfl
    · exact ⟨hF.ok, hd, by omega⟩
    · exact hj
  have l2 := all_of_ok (n := n + 39) (ps := [F, joinF false ps]) (fun p hp => ⟨(hq2 p hp).1, by have := (hq2 p hp).2.1; omega, by have := (hq2 p hp).2.2; omega⟩) (by simp) M7
  obtain ⟨o1, o2, o3⟩ := join_ok (a := true) (ps := [F, joinF false ps]) (k := 4) (s := 161) hq2 (by decide) (by decide)
  have hr2 : ∀ p ∈ ps, ∀ q ∈ [F, p], q.Ok 100 ∧ q.dp ≤ 4 ∧ q.sz ≤ 64 := fun p hp q hq => by
    simp only [List.mem_cons, List.not_mem_nil, or_false] at hq
    rcases hq with rfl | rfl
    · exact ⟨hF.ok, hd, hs⟩
    · exact ⟨(g5 _ hp).ok, by have := (g5 _ hp).dp; omega, by have := (g5 _ hp).sz; omega⟩
  have l3 : ∀ env : En, env.length = 21 → env[13]? = some (some F.d) → compGo (.n 19) (fun _ M => .ok true M) (fun env M => evE (callN T (n + 40)) f_law_c3 env M) env (ps.map Fm.d) M7 = .ok ((ps.map fun p => joinF true [F, p]).map Fm.d) M7 := fun env he h0 => by
    rw [comp_fm (q := fun p => (joinF true [F, p]).d) fun p hp => ?_]
    · rw [List.map_map]; rfl
    · have q := all_of_ok (n := n + 39) (ps := [F, p]) (fun q hq => ⟨(hr2 p hp q hq).1, by have := (hr2 p hp q hq).2.1; omega, by have := (hr2 p hp q hq).2.2; omega⟩) (by simp) M7
      have q1 : (env.set 19 (some p.d))[19]? = some (some p.d) := List.getElem?_set_self (by omega)
      have q2 : (env.set 19 (some p.d))[13]? = some (some F.d) := by rw [List.getElem?_set_ne (by decide)]; exact h0
      simp only [List.map_cons, List.map_nil] at q
      simp [f_law_c3, q1, q2, q]
  have hu2 : ∀ q ∈ ps.map fun p => joinF true [F, p], q.Ok 100 ∧ q.dp ≤ 5 ∧ q.sz ≤ 130 := fun q hq => by
    obtain ⟨p, hp, rfl⟩ := List.mem_map.mp hq
    obtain ⟨j1, j2, j3⟩ := join_ok (a := true) (ps := [F, p]) (k := 4) (s := 64) (hr2 p hp) (by decide) (by decide)
    exact ⟨j1, j2, by simp at j3; omega⟩
  have l4 := some_of_ok (n := n + 39) (ps := ps.map fun p => joinF true [F, p]) (fun q hq => ⟨(hu2 q hq).1, by have := (hu2 q hq).2.1; omega, by have := (hu2 q hq).2.2; omega⟩) (by rw [List.length_map]; omega) M7
  obtain ⟨v1, v2, v3⟩ := join_ok (a := false) (ps := ps.map fun p => joinF true [F, p]) (k := 5) (s := 130) hu2 (by decide) (by decide)
  rw [List.length_map] at v3
  have v4 : ps.length * 130 ≤ 10 * 130 := Nat.mul_le_mul_right _ g4
  have o4 : (joinF true [F, joinF false ps]).sz ≤ 323 := by simp at o3; omega
  have m1 := wt_holds (n := n) o1 (by omega) (by omega) (by decide) hw M7
  have m2 := opposite_ok (n := n + 33) o1 (by omega) (by omega) (by omega) (by decide) M7
  have m3 := wt_holds (n := n) (opp_ok o1) (by rw [opp_dp]; omega) (by rw [opp_sz]; omega) (by decide) hw M7
  have m4 := wt_holds (n := n) v1 (by omega) (by omega) (by decide) hw M7
  rw [opp_hld o1] at m3
  have ev : (joinF false (ps.map fun p => joinF true [F, p])).hld (gW S g) = (joinF true [F, joinF false ps]).hld (gW S g) := by
    rw [join_hld, join_hld, List.map_map]
    have e : ps.map (Fm.hld (gW S g) ∘ fun p => joinF true [F, p]) = (ps.map (Fm.hld (gW S g))).map fun v => (F.hld (gW S g) && (v && true)) := by
      rw [List.map_map]
      apply List.map_congr_left
      intro p _
      show (joinF true [F, p]).hld (gW S g) = _
      rw [join_hld]; rfl
    rw [e]
    show ((ps.map (Fm.hld (gW S g))).map fun v => (F.hld (gW S g) && (v && true))).any id = (F.hld (gW S g) && ((joinF false ps).hld (gW S g) && true))
    rw [any_and, join_hld]; rfl
  rw [ev] at m4
  have m5 := law_same_ok (k := 1) (n := n + 38) (d := .lst [.bl ((joinF true [F, joinF false ps]).hld (gW S g)), .bl (!(joinF true [F, joinF false ps]).hld (gW S g))]) rfl M7
  obtain ⟨c4, f4', M8, n1, fd4, d8⟩ := law_form_ok (n := n + 36) d7
  have hxN : ("x" : Str) ∈ NL := by decide +kernel
  have hyN : ("y" : Str) ∈ NL := by decide +kernel
  have n2 := unk_ok (n := n + 39) hyN M8
  have n3 := put_for_ok (n := n + 35) hxN fd4.sm (sF_sm (y := "y") (a := 1) (c := 0) (k := 1) (by decide) (by decide)) (by decide) (by decide) M8
  have n4 : ∀ (c : Int) (f : Str → Int), callN T (n + 40) "is_form" [fmD c f] M8 = .ok (.bl true) M8 := fun c f => form_ok (n := n + 37) M8
  generalize (joinF true [F, joinF false ps]).hld (gW S g) = vb at *
  simp only [List.map_reverse] at a5
  simp only [List.map_nil] at a4
  simp only [List.map_cons, List.map_nil] at l2
  have hNW : D.lst (NW.map D.str) = .lst [.str "x", .str "y", .str "z", .str "a", .str "a#1", .str "a#1.2", .str "r0", .str "x_2", .str "n0000000000000000000000000000000000000000000000000000000000#"] := rfl
  have hf2 : ∀ M, biD .tuple false [.lst (prsD (NL.filter (bkV β false S)) (bkV β 0 g))] M = .ok (wtD (bkV β false S) (bkV β 0 g)) M := fun M => rfl
  have hwt : walkD (wtD S g) = some (prsD (NL.filter S) g) := rfl
  refine ⟨_, M8, x2, z3, some (wtD S' g'), some (.lst (NW.map D.str)), some (.loc M5.length), some (wtD (bkV β false S) (bkV β 0 g)), some ((F.ren β).d), some (.lst (ps.map Fm.d)), some ((joinF true [F, joinF false ps]).d), some ((joinF false (ps.map fun p => joinF true [F, p])).d), some (fmD c4 f4'), some (F.d), some (wtD S g), some (fo.d), some (.lst (st.map Stp.d)), some (.bl t), w18, x19, x20, ?_, d8⟩
  unfold f_law_b2
  refine (stepS (env1 := [p0, some (.loc 1), x2, x3, x4, x5, x6, x7, x8, x9, x10, x11, x12, some (F.d), some (wtD S g), x15, x16, x17, x18, x19, x20])
    (M1 := M2) (by
      simp [a1, a2]
    )).trans ?_
  refine (stepS (env1 := [p0, some (.loc 1), x2, x3, x4, x5, x6, x7, x8, x9, x10, x11, x12, some (F.d), some (wtD S g), some (F.d), some (.lst []), some (.bl false), x18, x19, x20])
    (M1 := M2) (by
      simp
    )).trans ?_
  refine (stepS (env1 := [p0, some (.loc 1), x2, z3, x4, x5, x6, x7, x8, x9, x10, x11, z12, some (F.d), some (wtD S g), some (fo.d), some (.lst (st.map Stp.d)), some (.bl t), z18, x19, x20])
    (M1 := M4) (by
      simp [a3, hkf]
      rw [a4]
    )).trans ?_
  refine (stepS (env1 := [p0, some (.loc 1), x2, z3, some (wtD S g), x5, x6, x7, x8, x9, x10, x11, z12, some (F.d), some (wtD S g), some (fo.d), some (.lst (st.map Stp.d)), some (.bl t), z18, x19, x20])
    (M1 := M4) (by
      simp
    )).trans ?_
  refine (stepS (env1 := [p0, some (.loc 1), x2, z3, some (wtD S' g'), x5, x6, x7, x8, x9, x10, x11, w12, some (F.d), some (wtD S g), some (fo.d), some (.lst (st.map Stp.d)), some (.bl t), w18, x19, x20])
    (M1 := M4) (by
      simp
      rw [a5]
    )).trans ?_
  refine (stepS (env1 := [p0, some (.loc 1), x2, z3, some (wtD S' g'), x5, x6, x7, x8, x9, x10, x11, w12, some (F.d), some (wtD S g), some (fo.d), some (.lst (st.map Stp.d)), some (.bl t), w18, x19, x20])
    (M1 := M4) (by
      simp [k1, k2, k3]
      cases due <;> cases t <;> simp at k4 ⊢ <;> simp [k4]
    )).trans ?_
  refine (stepS (env1 := [p0, some (.loc 1), x2, z3, some (wtD S' g'), some (.lst (NW.map D.str)), x6, x7, x8, x9, x10, x11, w12, some (F.d), some (wtD S g), some (fo.d), some (.lst (st.map Stp.d)), some (.bl t), w18, x19, x20])
    (M1 := M4) (by
      simp [s1, s2, s3]
      rfl
    )).trans ?_
  refine (stepS (env1 := [p0, some (.loc 1), x2, z3, some (wtD S' g'), some (.lst (NW.map D.str)), some (.loc M5.length), x7, x8, x9, x10, x11, w12, some (F.d), some (wtD S g), some (fo.d), some (.lst (st.map Stp.d)), some (.bl t), w18, x19, x20])
    (M1 := (M5 ++ [.dct (bw β)])) (by
      simp [c1, c2, a6, a7]
    )).trans ?_
  refine (stepS (env1 := [p0, some (.loc 1), x2, z3, some (wtD S' g'), some (.lst (NW.map D.str)), some (.loc M5.length), some (wtD (bkV β false S) (bkV β 0 g)), x8, x9, x10, x11, w12, some (F.d), some (wtD S g), some (fo.d), some (.lst (st.map Stp.d)), some (.bl t), w18, x19, x20])
    (M1 := (M5 ++ [.dct (bw β)])) (by
      simp [hwt]
      rw [e1 _ rfl rfl]
      simp only [bind_ok, newList_f]
      rw [e2]
      rfl
    )).trans ?_
  refine (stepS (env1 := [p0, some (.loc 1), x2, z3, some (wtD S' g'), some (.lst (NW.map D.str)), some (.loc M5.length), some (wtD (bkV β false S) (bkV β 0 g)), some ((F.ren β).d), x9, x10, x11, w12, some (F.d), some (wtD S g), some (fo.d), some (.lst (st.map Stp.d)), some (.bl t), w18, x19, x20])
    (M1 := (M5 ++ [.dct (bw β)])) (by
      simp [e3]
    )).trans ?_
  refine (stepS (env1 := [p0, some (.loc 1), x2, z3, some (wtD S' g'), some (.lst (NW.map D.str)), some (.loc M5.length), some (wtD (bkV β false S) (bkV β 0 g)), some ((F.ren β).d), x9, x10, x11, w12, some (F.d), some (wtD S g), some (fo.d), some (.lst (st.map Stp.d)), some (.bl t), w18, x19, x20])
    (M1 := (M5 ++ [.dct (bw β)])) (by
      simp [f1, f2, f3, f4, f7]
      rw [f5 _ rfl rfl]
      simp only [bind_ok, newList_f]
      rw [f6]
      simp [f8]
    )).trans ?_
  refine (stepS (env1 := [p0, some (.loc 1), x2, z3, some (wtD S' g'), some (.lst (NW.map D.str)), some (.loc M5.length), some (wtD (bkV β false S) (bkV β 0 g)), some ((F.ren β).d), some (.lst (ps.map Fm.d)), x10, x11, w12, some (F.d), some (wtD S g), some (fo.d), some (.lst (st.map Stp.d)), some (.bl t), w18, x19, x20])
    (M1 := M7) (by
      simp [g1, g2]
      rw [g3 _ rfl rfl]
      simp
    )).trans ?_
  refine (stepS (env1 := [p0, some (.loc 1), x2, z3, some (wtD S' g'), some (.lst (NW.map D.str)), some (.loc M5.length), some (wtD (bkV β false S) (bkV β 0 g)), some ((F.ren β).d), some (.lst (ps.map Fm.d)), some ((joinF true [F, joinF false ps]).d), x11, w12, some (F.d), some (wtD S g), some (fo.d), some (.lst (st.map Stp.d)), some (.bl t), w18, x19, x20])
    (M1 := M7) (by
      simp [l1, l2]
    )).trans ?_
  refine (stepS (env1 := [p0, some (.loc 1), x2, z3, some (wtD S' g'), some (.lst (NW.map D.str)), some (.loc M5.length), some (wtD (bkV β false S) (bkV β 0 g)), some ((F.ren β).d), some (.lst (ps.map Fm.d)), some ((joinF true [F, joinF false ps]).d), some ((joinF false (ps.map fun p => joinF true [F, p])).d), w12, some (F.d), some (wtD S g), some (fo.d), some (.lst (st.map Stp.d)), some (.bl t), w18, x19, x20])
    (M1 := M7) (by
      simp only [es_asg, ev_call, ev_cons, ev_nil, ev_comp, ev_cnon, ev_sq, ev_var, wp_cons, wp_nil, List.set, List.getElem?_cons_zero, List.getElem?_cons_succ, wk_lst, ofO_some, bind_ok]
      rw [l3 _ rfl rfl]
      simp only [bind_ok, newList_f]
      rw [l4]
      rfl
    )).trans ?_
  refine (stepS (env1 := [p0, some (.loc 1), x2, z3, some (wtD S' g'), some (.lst (NW.map D.str)), some (.loc M5.length), some (wtD (bkV β false S) (bkV β 0 g)), some ((F.ren β).d), some (.lst (ps.map Fm.d)), some ((joinF true [F, joinF false ps]).d), some ((joinF false (ps.map fun p => joinF true [F, p])).d), w12, some (F.d), some (wtD S g), some (fo.d), some (.lst (st.map Stp.d)), some (.bl t), w18, x19, x20])
    (M1 := M7) (by
      simp [m1, m2, m3, m4, m5]
    )).trans ?_
  refine (stepS (env1 := [p0, some (.loc 1), x2, z3, some (wtD S' g'), some (.lst (NW.map D.str)), some (.loc M5.length), some (wtD (bkV β false S) (bkV β 0 g)), some ((F.ren β).d), some (.lst (ps.map Fm.d)), some ((joinF true [F, joinF false ps]).d), some ((joinF false (ps.map fun p => joinF true [F, p])).d), some (fmD c4 f4'), some (F.d), some (wtD S g), some (fo.d), some (.lst (st.map Stp.d)), some (.bl t), w18, x19, x20])
    (M1 := M8) (by
      simp [n1]
    )).trans ?_
  refine (stepS (env1 := [p0, some (.loc 1), x2, z3, some (wtD S' g'), some (.lst (NW.map D.str)), some (.loc M5.length), some (wtD (bkV β false S) (bkV β 0 g)), some ((F.ren β).d), some (.lst (ps.map Fm.d)), some ((joinF true [F, joinF false ps]).d), some ((joinF false (ps.map fun p => joinF true [F, p])).d), some (fmD c4 f4'), some (F.d), some (wtD S g), some (fo.d), some (.lst (st.map Stp.d)), some (.bl t), w18, x19, x20])
    (M1 := M8) (by
      simp [n2, n3, n4]
    )).trans ?_
  rfl
theorem turns {p0 : Option D} : ∀ (l : List D) (Rs : Sto) (M : Sto) (x2 x3 x4 x5 x6 x7 x8 x9 x10 x11 x12 x13 x14 x15 x16 x17 x18 x19 x20 : Option D), Deal Rs M →
    ∃ env' M', forGo (.n 2) (fun env M => evSs (callN T (n + 40)) f_law_b2 env M) l [p0, some (.loc 1), x2, x3, x4, x5, x6, x7, x8, x9, x10, x11, x12, x13, x14, x15, x16, x17, x18, x19, x20] M = .ok (.nx env') M'
  | [], Rs, M, x2, x3, x4, x5, x6, x7, x8, x9, x10, x11, x12, x13, x14, x15, x16, x17, x18, x19, x20, d => ⟨_, M, rfl⟩
  | i :: r, Rs, M, x2, x3, x4, x5, x6, x7, x8, x9, x10, x11, x12, x13, x14, x15, x16, x17, x18, x19, x20, d => by
    obtain ⟨Rs', M1, y2, y3, y4, y5, y6, y7, y8, y9, y10, y11, y12, y13, y14, y15, y16, y17, y18, y19, y20, e, d1⟩ := turn_ok (n := n) (p0 := p0) (x2 := some i) (x3 := x3) (x4 := x4) (x5 := x5) (x6 := x6) (x7 := x7) (x8 := x8) (x9 := x9) (x10 := x10) (x11 := x11) (x12 := x12) (x13 := x13) (x14 := x14) (x15 := x15) (x16 := x16) (x17 := x17) (x18 := x18) (x19 := x19) (x20 := x20) d
    obtain ⟨env', M', e2⟩ := turns r Rs' M1 y2 y3 y4 y5 y6 y7 y8 y9 y10 y11 y12 y13 y14 y15 y16 y17 y18 y19 y20 d1
    refine ⟨env', M', ?_⟩
    unfold forGo
    dsimp only [ag_n, List.set]
    rw [e]
    exact e2
theorem law_ok {ns : List Int} : ∃ M', callN T (n + 41) "law" [.scr (ns.map .int)] [] = .ok (.bl true) M' := by
  obtain ⟨M1, e1, d1⟩ := law_draw_ok (n := n + 39) (ns := ns)
  obtain ⟨env', M', e2⟩ := turns (n := n) (p0 := some (.scr (ns.map .int))) (rngD 0 (Int.toNat 5)) [] M1 none none none none none none none none none none none none none none none none none none none d1
  refine ⟨M', ?_⟩
  refine free_call (fn := f_law) (by kernel_rfl) rfl rfl ?_
  have hf : fitLen (Int.natAbs 5) = true := by decide +kernel
  simp at e2 hf
  simp [f_law, e1, hf]
  rw [e2]
  rfl
end K06T
end Z


theorem PySem.Challenge.cw_boundbyproof_k06_whole_rows_of_formulas_holds : PySem.Challenge.rw_boundbyproof_k06_whole_rows_of_formulas.Holds := by
  exact K06T.ends (N := 41) ⟨rfl, by decide, by decide⟩ fun ns _ => Z.K06T.law_ok (n := 0)
