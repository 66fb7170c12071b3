import PyProof.Rows.All
import Wide.All
import OpenK.AllK
import Wide.FinOn
import HandS.ForMost
import HandS.ForExc
import HandS.CallSlots
import HandS.TryMany
import HandS.ExcIs
import HandS.ExcField
import HandS.Defaults
import HandS.IsInst
import HandS.Star
import HandS.Zip
import HandS.Rev
import HandS.Conv
import HandS.TupAny
import HandS.TupMul
import HandS.Wide
import HandS.SetKeys
import HandS.Style
import HandS.Small
import HandS.SortOrd
import HandS.StrMore
import HandS.More
import HandS.Deep
import PyProof.Rows.SortShellAny
import HandS.SetFor
import HandS.SetTxt0
import HandS.Lambda
import KE.KDictPairs
import KE.KDictZip
import PyProof.ZipIter
import HandS.SortRule
import KE.KItemsList
import HandS.Walk
import HandS.ExcInit
import HandS.ExcSuper
import HandS.HeadWalk
import KE.KExcSuper
import KE.KSuper
import HandS.HeadEnd
import HandS.HeadHook1
import HandS.HeadHook2
import KE.KStateDown
import HandS.WordsExc
import HandS.Head0
import HandS.Head1
import HandS.Head2
import PySem.Challenge.RW_boundbyproof_k21_whole_shadows_and_bound
set_option Elab.async false
set_option linter.all false
set_option maxRecDepth 100000
set_option maxHeartbeats 0
set_option autoImplicit false
/-! Z1: values, the small language (IR), its functional meaning. -/
namespace Z
open PySem L2

/-- values: tuples (pr: what a walk yields in pairs) and value lists as they are; scr: a list that is read alone (the script); loc: a changing object of the store -/
inductive D where
  | non | bl (b : Bool) | int (i : Int) | str (s : Str)
  | tup (xs : List D) | lst (xs : List D)
  | scr (xs : List D)
  | loc (n : Nat)
  | pr (xs : List D)
inductive MO where
  | dead
  | lst (xs : List D)
  | dct (kvs : List (Key × D))
  | ins (c : String) (fs : List (String × D))
abbrev Sto := List MO
abbrev En := List (Option D)

inductive Res (α : Type) where
  | ok (a : α) (M : Sto)
  | exc (c : String) (p : Option D) (M : Sto)
  | fail
def Res.bind {α β : Type} (r : Res α) (f : α → Sto → Res β) : Res β := match r with
  | .ok a M => f a M
  | .exc c p M => .exc c p M
  | .fail => .fail
@[simp] theorem bind_ok {α β : Type} (a : α) (M : Sto) (f : α → Sto → Res β) : (Res.ok a M).bind f = f a M := rfl
@[simp] theorem bind_exc {α β : Type} (c : String) (p : Option D) (M : Sto) (f : α → Sto → Res β) : (Res.exc c p M : Res α).bind f = .exc c p M := rfl
@[simp] theorem bind_fail {α β : Type} (f : α → Sto → Res β) : (Res.fail : Res α).bind f = .fail := rfl
/-- an exception is a fault here -/
def Res.calm {α : Type} (r : Res α) : Res α := match r with
  | .ok a M => .ok a M
  | _ => .fail
@[simp] theorem calm_ok {α : Type} (a : α) (M : Sto) : (Res.ok a M).calm = .ok a M := rfl
def ofO {α : Type} (o : Option α) (M : Sto) : Res α := match o with
  | some a => .ok a M
  | none => .fail
@[simp] theorem ofO_some {α : Type} (a : α) (M : Sto) : ofO (some a) M = .ok a M := rfl
@[simp] theorem ofO_none {α : Type} (M : Sto) : (ofO none M : Res α) = .fail := rfl

/-! ### equality -/
mutual
def D.eqv : D → D → Bool
  | .non, .non => true
  | .bl a, .bl b => a == b
  | .bl a, .int j => (if a then 1 else 0) == j
  | .int i, .bl b => i == (if b then 1 else 0)
  | .int i, .int j => i == j
  | .str x, .str y => x == y
  | .lst xs, .lst ys => D.eqvs xs ys
  | .tup xs, .tup ys => D.eqvs xs ys
  | _, _ => false
def D.eqvs : List D → List D → Bool
  | [], [] => true
  | x :: xs, y :: ys => D.eqv x y && D.eqvs xs ys
  | _, _ => false
end
mutual
/-- data of few levels, its texts of signs that there are -/
def D.fit : Nat → D → Bool
  | _, .non => true
  | _, .bl _ => true
  | _, .int _ => true
  | _, .str x => x.cps.all (· < 0x110000)
  | 0, _ => false
  | n + 1, .tup xs => D.fits n xs
  | n + 1, .lst xs => D.fits n xs
  | _, .scr _ => false
  | _, .loc _ => false
  | _, .pr _ => false
def D.fits : Nat → List D → Bool
  | _, [] => true
  | n, x :: xs => D.fit n x && D.fits n xs
end
/-- a list that changes is compared by what it holds -/
def D.seen (M : Sto) : D → D
  | .loc n => (match M[n]? with
    | some (.lst xs) => .lst xs
    | _ => .loc n)
  | d => d
def D.flat : D → Bool
  | .non | .bl _ | .int _ | .str _ => true
  | _ => false
def D.scal : D → D → Bool
  | .bl _, .int _ | .int _, .bl _ => false
  | a, b => a.flat && b.flat
def eqD (M : Sto) (a b : D) : Option Bool :=
  if D.scal a b then some (D.eqv a b) else
  let x := a.seen M
  let y := b.seen M
  if D.fit 64 x && D.fit 64 y then some (D.eqv x y) else none

/-! ### sequences, places -/
def asSeq (M : Sto) : D → Option (List D)
  | .tup xs => some xs
  | .lst xs => some xs
  | .loc n => (match M[n]? with
    | some (.lst xs) => some xs
    | _ => none)
  | _ => none
/-- the i-th item, counted from either end -/
abbrev itemAt {α : Type} (xs : List α) (i : Int) : Option α := atI xs i
def cut {α : Type} (xs : List α) (lo hi : Option Int) : List α :=
  (xs.drop (HT.sIx xs.length 0 lo)).take (HT.sIx xs.length xs.length hi - HT.sIx xs.length 0 lo)
def newList (m : Bool) (xs : List D) (M : Sto) : Res D := if m then .ok (.loc M.length) (M ++ [.lst xs]) else .ok (.lst xs) M

/-! ### the small language -/
inductive Bop where
  | add | sub | mul | fdiv | mod | pow
  deriving DecidableEq
inductive Cop where
  | eq | ne | lt | le | gt | ge | inn | nin
  deriving DecidableEq
inductive Ty where
  | int | bool | str | tup | lst | non | dct
  deriving DecidableEq
inductive Bi where
  | len | abs | int | all | any | sum | max | min | tuple | list | sorted | dict | str | sset | sortp | dzip | ditems | lrange
  deriving DecidableEq
/-- told by two names, one within the other -/
def Bi.two : Bi → Bool
  | .sset => true
  | .dzip => true
  | .ditems => true
  | .lrange => true
  | _ => false
inductive Mt where
  | append | pop | popAt | extend | get | join | upper | split | startswith | replace | index
  deriving DecidableEq
inductive Tg where
  | n (i : Nat)
  | t (is : List Nat)
  deriving DecidableEq
/-- how a def that is handed a lambda tells what it does: the form of its answer; the errors that it hears of, each with its word -/
inductive HK where
  | ret | var | zero
  deriving DecidableEq
structure HF where
  k : HK
  hs : List (String × Str)
  deriving DecidableEq
mutual
inductive E where
  | var (i : Nat)
  | cst (d : D)
  | gl (x : String) (d : D)
  | bin (op : Bop) (a b : E)
  | neg (a : E)
  | cmp (op : Cop) (a b : E)
  | chain (o1 o2 : Cop) (a b c : E)
  | isN (neg : Bool) (a : E)
  | isB (neg b : Bool) (a : E)
  | boo (k : Bool) (es : Es)
  | not (a : E)
  | ite (c a b : E)
  | tup (es : Es)
  | tstar (a b : E)
  | lst (m : Bool) (es : Es)
  | dic0
  | idx (a i : E)
  | slc (m : Bool) (a : E) (lo hi : Oe)
  | rev (m : Bool) (a : E)
  | call (f : String) (es : Es)
  | callk (f : String) (es : Es) (ks : List String) (π : List Nat) (kes : Es)
  | bi (b : Bi) (m : Bool) (es : Es)
  | isi (a : E) (one : Bool) (ts : List Ty)
  | mth (f : Mt) (a : E) (es : Es)
  | comp (m : Bool) (el : E) (t : Tg) (it : It) (c : Oe) (own : List Nat)
  | comp2 (m : Bool) (el : E) (t : Tg) (it : It) (c : Oe) (t1 : Tg) (it1 : It) (c1 : Oe) (own own1 : List Nat)
  | heard (g : String) (h : HF) (body : E)
  | frz (a : E)
  | nvr
inductive Es where
  | nil
  | cons (e : E) (es : Es)
inductive Oe where
  | non
  | som (e : E)
inductive It where
  | sq (e : E)
  | rng (es : Es)
  | enm (e : E)
  | zip (a b : E)
end
mutual
inductive S where
  | ex (e : E)
  | asg (t : Tg) (e : E)
  | asgIx (a i e : E)
  | aug (i : Nat) (op : Bop) (e : E)
  | ret (e : Oe)
  | iff (c : E) (a b : Ss)
  | whl (c : E) (b : Ss)
  | for_ (t : Tg) (it : It) (b : Ss)
  | rais (c : String) (es : Es)
  | tr (b : Ss) (i : Nat) (hs : List (String × Str))
  | pas
  | brk
  | cnt
  | nvr
inductive Ss where
  | nil
  | cons (s : S) (r : Ss)
end
/-- a def: how many parameters, how many names, its body; own: nothing new is left behind it but its answer; low: what it calls is so much less deep -/
structure Fn where
  np : Nat
  ns : Nat
  body : Ss
  own : Bool
  low : Nat

/-! ### operations -/
def mulOk (i j : Int) : Bool := decide (i.natAbs.log2 + j.natAbs.log2 < 1000000)
def divOk (j : Int) : Bool := decide (0 < j ∧ j.natAbs.log2 < 9000)
def powOk (i j : Int) : Bool := decide (0 ≤ j ∧ j ≤ 1000000 ∧ i.natAbs < 2 ^ 64)
def fitLen (n : Nat) : Bool := decide (n ≤ 1000000)
def binD : Bop → D → D → Sto → Res D
  | .add, .int i, .int j, M => .ok (.int (i + j)) M
  | .sub, .int i, .int j, M => .ok (.int (i - j)) M
  | .mul, .int i, .int j, M => if mulOk i j then .ok (.int (i * j)) M else .fail
  | .fdiv, .int i, .int j, M => if divOk j then .ok (.int (i / j)) M else .fail
  | .mod, .int i, .int j, M => if decide (0 < j) then .ok (.int (i % j)) M else .fail
  | .pow, .int i, .int j, M => if powOk i j then .ok (.int (i ^ j.toNat)) M else .fail
  | .add, .str x, .str y, M => if fitLen (x.length + y.length) then .ok (.str (x ++ y)) M else .fail
  | .mul, .str x, .int j, M => if decide (0 ≤ j ∧ j ≤ 1000 ∧ x.length ≤ 1000) then .ok (.str (Txt.mul x j)) M else .fail
  | .add, .lst xs, .lst ys, M => if fitLen (xs.length + ys.length) then .ok (.lst (xs ++ ys)) M else .fail
  | .mul, .lst xs, .int j, M => if decide (0 ≤ j ∧ j ≤ 1000 ∧ xs.length ≤ 1000) then .ok (.lst (List.replicate j.toNat xs).flatten) M else .fail
  | .mul, .tup xs, .int j, M => if decide (0 < xs.length ∧ 1 ≤ j ∧ xs.length * j.toNat ≤ 1000000) then .ok (.tup (List.replicate j.toNat xs).flatten) M else .fail
  | .add, .tup xs, .tup ys, M => if fitLen (xs.length + ys.length) then .ok (.tup (xs ++ ys)) M else .fail
  | _, _, _, _ => .fail
def ltStr (x y : Str) : Bool := decide (x.cps.toList < y.cps.toList)
/-- one sign in a text -/
def inStr (x y : Str) : Option Bool := match x.cps.toList with
  | [c] => some (decide (c ∈ y.cps.toList))
  | _ => none
def inD (M : Sto) (x y : D) : Option Bool := match x, y with
  | .str a, .str b => inStr a b
  | _, .loc n => (match M[n]?, x with
    | some (.lst xs), _ => if x.flat && xs.all D.flat then some (xs.any fun z => D.eqv z x) else if D.fit 64 x && D.fits 63 xs then some (xs.any fun z => D.eqv z x) else none
    | some (.dct kvs), .str a => some (kvs.any fun kv => decide (kv.1 = Sum.inr a))
    | some (.dct kvs), .int a => some (kvs.any fun kv => decide (kv.1 = Sum.inl a))
    | _, _ => none)
  | _, .tup xs => if x.flat && xs.all D.flat then some (xs.any fun z => D.eqv z x) else none
  | _, .lst xs => if x.flat && xs.all D.flat then some (xs.any fun z => D.eqv z x) else if D.fit 64 x && D.fits 63 xs then some (xs.any fun z => D.eqv z x) else none
  | _, _ => none
def cmpD (M : Sto) : Cop → D → D → Option Bool
  | .eq, a, b => eqD M a b
  | .ne, a, b => (eqD M a b).map (!·)
  | .lt, .int i, .int j => some (decide (i < j))
  | .le, .int i, .int j => some (decide (i ≤ j))
  | .gt, .int i, .int j => some (decide (j < i))
  | .ge, .int i, .int j => some (decide (j ≤ i))
  | .lt, .str i, .str j => some (ltStr i j)
  | .inn, a, b => inD M a b
  | .nin, a, b => (inD M a b).map (!·)
  | _, _, _ => none
def tyOf (M : Sto) : D → Option Ty
  | .int _ => some .int
  | .bl _ => some .bool
  | .str _ => some .str
  | .tup _ => some .tup
  | .lst _ => some .lst
  | .non => some .non
  | .loc n => (match M[n]? with
    | some (.lst _) => some .lst
    | some (.dct _) => some .dct
    | _ => none)
  | .scr _ => none
  | .pr _ => none
/-- a kind within a kind -/
def subTy (u t : Ty) : Bool := u == t || (u == .bool && t == .int)
def getK {κ : Type} [DecidableEq κ] (kvs : List (κ × D)) (k : κ) : Option D := (kvs.find? fun kv => decide (kv.1 = k)).map (·.2)
def idxD (M : Sto) : D → D → Option D
  | .str s, .int i => if fitLen s.length then (itemAt s.cps.toList i).map fun c => .str ⟨#[c]⟩ else none
  | .tup xs, .int i => itemAt xs i
  | .lst xs, .int i => itemAt xs i
  | .loc n, k => (match M[n]?, k with
    | some (.lst xs), .int i => itemAt xs i
    | some (.dct kvs), .str x => getK kvs (Sum.inr x)
    | some (.dct kvs), .int x => getK kvs (Sum.inl x)
    | _, _ => none)
  | _, _ => none
def slcD (m : Bool) (d : D) (lo hi : Option Int) (M : Sto) : Res D := match d with
  | .str s => if fitLen s.length then .ok (.str ⟨(cut s.cps.toList lo hi).toArray⟩) M else .fail
  | .lst xs => newList m (cut xs lo hi) M
  | .scr xs => newList m (cut xs lo hi) M
  | .tup xs => .ok (.tup (cut xs lo hi)) M
  | .loc n => (match M[n]? with
    | some (.lst xs) => newList m (cut xs lo hi) M
    | _ => .fail)
  | _ => .fail
/-- (x, *y) -/
def starD (x y : D) (M : Sto) : Res D := match y with
  | .lst ys => if fitLen (ys.length + 1) then .ok (.tup (x :: ys)) M else .fail
  | .tup ys => if fitLen (ys.length + 1) then .ok (.tup (x :: ys)) M else .fail
  | _ => .fail
/-- d[k] = v -/
def putD {κ : Type} [DecidableEq κ] (k : κ) (v : D) (kvs : List (κ × D)) : List (κ × D) :=
  if (kvs.any fun kv => decide (kv.1 = k)) = true then kvs.map (fun kv => if kv.1 = k then (kv.1, v) else kv) else kvs ++ [(k, v)]
def intsD : List D → Option (List Int)
  | [] => some []
  | .int i :: r => (intsD r).map (i :: ·)
  | _ :: _ => none
def strsD : List D → Option (List Str)
  | [] => some []
  | .str i :: r => (strsD r).map (i :: ·)
  | _ :: _ => none
def boolsD : List D → Option (List Bool)
  | [] => some []
  | .bl i :: r => (boolsD r).map (i :: ·)
  | _ :: _ => none
def pairsK : List D → Option (List (Key × D))
  | [] => some []
  | .tup [.str x, v] :: r => (pairsK r).map ((Sum.inr x, v) :: ·)
  | .tup [.int x, v] :: r => (pairsK r).map ((Sum.inl x, v) :: ·)
  | _ :: _ => none
def insStr (x : Str) : List Str → List Str
  | [] => [x]
  | y :: r => if ltStr y x then y :: insStr x r else x :: y :: r
def sortStr (xs : List Str) : List Str := xs.foldr insStr []
def insInt (x : Int) : List Int → List Int
  | [] => [x]
  | y :: r => if y < x then y :: insInt x r else x :: y :: r
def sortInt (xs : List Int) : List Int := xs.foldr insInt []
def dedupStr : List Str → List Str
  | [] => []
  | x :: r => if x ∈ r then dedupStr r else x :: dedupStr r
/-- pairs of a text and a number; by the text, then by the number -/
def prsS : List D → Option (List (Str × Int))
  | [] => some []
  | .tup [.str x, .int i] :: r => (prsS r).map ((x, i) :: ·)
  | _ :: _ => none
def prS (p : Str × Int) : D := .tup [.str p.1, .int p.2]
def lexS (p q : Str × Int) : Bool := if p.1 = q.1 then decide (p.2 < q.2) else ltStr p.1 q.1
def insP (x : Str × Int) : List (Str × Int) → List (Str × Int)
  | [] => [x]
  | y :: r => if lexS y x then y :: insP x r else x :: y :: r
def sortP (xs : List (Str × Int)) : List (Str × Int) := xs.foldr insP []
def keysL : List D → Option (List Key)
  | [] => some []
  | .str x :: r => (keysL r).map (Sum.inr x :: ·)
  | .int x :: r => (keysL r).map (Sum.inl x :: ·)
  | _ :: _ => none
def maxInt : List Int → Option Int
  | [] => none
  | x :: r => some (r.foldl max x)
def minInt : List Int → Option Int
  | [] => none
  | x :: r => some (r.foldl min x)
def dctAt (M : Sto) : D → Option (List (Key × D))
  | .loc n => (match M[n]? with
    | some (.dct kvs) => some kvs
    | _ => none)
  | _ => none
def keyD : Key → D
  | .inl i => .int i
  | .inr x => .str x
def rngD (lo : Int) : Nat → List D
  | 0 => []
  | n + 1 => .int lo :: rngD (lo + 1) n
/-- values in another order -/
def permL {α : Type} (π : List Nat) (ys : List α) : List α := if π.isEmpty then ys else π.filterMap (ys[·]?)
def biD (b : Bi) (m : Bool) (ds : List D) (M : Sto) : Res D := match b, ds with
  | .len, [.str s] => if fitLen s.length then .ok (.int s.length) M else .fail
  | .len, [.loc n] => (match M[n]? with
    | some (.lst xs) => .ok (.int xs.length) M
    | some (.dct kvs) => .ok (.int kvs.length) M
    | _ => .fail)
  | .len, [.tup xs] => .ok (.int xs.length) M
  | .len, [.lst xs] => .ok (.int xs.length) M
  | .len, [.scr xs] => .ok (.int xs.length) M
  | .abs, [.int i] => .ok (.int (if i < 0 then -i else i)) M
  | .int, [.int i] => .ok (.int i) M
  | .all, [.lst xs] => (ofO (boolsD xs) M).bind fun bs M => .ok (.bl (bs.all id)) M
  | .any, [.lst xs] => (ofO (boolsD xs) M).bind fun bs M => .ok (.bl (bs.any id)) M
  | .sum, [.lst xs] => (ofO (intsD xs) M).bind fun bs M => .ok (.int bs.sum) M
  | .max, [.lst xs] => (ofO (intsD xs) M).bind fun bs M => (ofO (maxInt bs) M).bind fun i M => .ok (.int i) M
  | .max, [.int i, .int j] => .ok (.int (if j > i then j else i)) M
  | .min, [.int i, .int j] => .ok (.int (if j < i then j else i)) M
  | .tuple, [d] => (ofO (asSeq M d) M).bind fun xs M => .ok (.tup xs) M
  | .list, [.loc n] => (match M[n]? with
    | some (.lst xs) => newList m xs M
    | some (.dct kvs) => newList m (kvs.map fun kv => keyD kv.1) M
    | _ => .fail)
  | .list, [.tup xs] => newList m xs M
  | .list, [.lst xs] => newList m xs M
  | .sorted, [.loc n] => (match M[n]? with
    | some (.dct kvs) => (ofO (strsD (kvs.map fun kv => keyD kv.1)) M).bind fun bs M => if fitLen bs.length then newList m ((sortStr bs).map .str) M else .fail
    | _ => .fail)
  | .sorted, [.lst xs] => (ofO (strsD xs) M).bind fun bs M => if fitLen bs.length then newList m ((sortStr bs).map .str) M else .fail
  | .sset, [.lst xs] => (ofO (strsD xs) M).bind fun bs M => if bs.length < 2000 then newList m ((sortStr (dedupStr bs)).map .str) M else .fail
  | .dict, [d] => (ofO (asSeq M d) M).bind fun xs M => (ofO (pairsK xs) M).bind fun kvs M => .ok (.loc M.length) (M ++ [.dct (kvs.foldl (fun a kv => putD kv.1 kv.2 a) [])])
  | .str, [.int i] => if decide (i.natAbs.log2 < 1920) then .ok (.str (Str.ofString (toString i))) M else .fail
  | .sortp, [.lst xs] => (ofO (prsS xs) M).bind fun ps M => if fitLen ps.length then newList m ((sortP ps).map prS) M else .fail
  | .dzip, [.lst xs, .lst ys] => (ofO (keysL xs) M).bind fun ks M => .ok (.loc M.length) (M ++ [.dct ((ks.zip ys).foldl (fun a kv => putD kv.1 kv.2 a) [])])
  | .ditems, [.loc n] => (match M[n]? with
    | some (.dct kvs) => newList m (kvs.map fun kv => .tup [keyD kv.1, kv.2]) M
    | _ => .fail)
  | .lrange, [.int n] => if fitLen n.natAbs then newList m (rngD 0 n.toNat) M else .fail
  | .lrange, [.int lo, .int hi] => if fitLen lo.natAbs && fitLen hi.natAbs then newList m (rngD lo (hi - lo).toNat) M else .fail
  | _, _ => .fail
/-- what has such a method -/
def kindM (f : Mt) (M : Sto) (d : D) : Bool := match d with
  | .loc n => (match M[n]?, f with
    | some (.lst _), .append => true
    | some (.lst _), .pop => true
    | some (.lst _), .popAt => true
    | some (.lst _), .extend => true
    | some (.dct _), .get => true
    | some (.lst _), .index => true
    | _, _ => false)
  | .lst _ => decide (f = .index)
  | _ => false
/-- the first place of an equal one -/
def idxOf (xs : List D) (x : D) (M : Sto) : Res D := if D.fit 64 x && D.fits 63 xs then (match xs.findIdx? (fun z => D.eqv z x) with
  | some j => .ok (.int (j : Int)) M
  | none => .fail) else .fail
def mthD (f : Mt) (a : D) (ds : List D) (M : Sto) : Res D := match f, a, ds with
  | .append, .loc n, [d] => (match M[n]? with
    | some (.lst xs) => if fitLen xs.length then .ok .non (M.set n (.lst (xs ++ [d]))) else .fail
    | _ => .fail)
  | .pop, .loc n, [] => (match M[n]? with
    | some (.lst xs) => (ofO xs.getLast? M).bind fun d M => .ok d (M.set n (.lst xs.dropLast))
    | _ => .fail)
  | .extend, .loc n, [.lst ys] => (match M[n]? with
    | some (.lst xs) => if fitLen (xs.length + ys.length) then .ok .non (M.set n (.lst (xs ++ ys))) else .fail
    | _ => .fail)
  | .popAt, .loc n, [.int i] => (match M[n]? with
    | some (.lst xs) => if decide (0 ≤ i ∧ i < xs.length ∧ xs.length ≤ 1000000) then (ofO xs[i.toNat]? M).bind fun d M => .ok d (M.set n (.lst (xs.eraseIdx i.toNat))) else .fail
    | _ => .fail)
  | .get, .loc n, [k, d] => (match M[n]?, k with
    | some (.dct kvs), .str x => .ok ((getK kvs (Sum.inr x)).getD d) M
    | some (.dct kvs), .int x => .ok ((getK kvs (Sum.inl x)).getD d) M
    | _, _ => .fail)
  | .index, .lst xs, [x] => idxOf xs x M
  | .index, .loc n, [x] => (match M[n]? with
    | some (.lst xs) => idxOf xs x M
    | _ => .fail)
  | _, _, _ => .fail
/-- a list that changed, and does no more -/
def frzD (d : D) (M : Sto) : Res D := match d with
  | .loc n => (match M[n]? with
    | some (.lst xs) => .ok (.lst xs) (M.set n .dead)
    | _ => .fail)
  | _ => .fail
def setIx (a i v : D) (M : Sto) : Res Unit := match a with
  | .loc n => (match M[n]?, i with
    | some (.lst xs), .int k => if decide (0 ≤ k ∧ k < xs.length) then .ok () (M.set n (.lst (xs.set k.toNat v))) else .fail
    | some (.dct kvs), .str x => if fitLen kvs.length then .ok () (M.set n (.dct (putD (Sum.inr x) v kvs))) else .fail
    | some (.dct kvs), .int x => if fitLen kvs.length then .ok () (M.set n (.dct (putD (Sum.inl x) v kvs))) else .fail
    | _, _ => .fail)
  | _ => .fail
/-- names take values -/
def asgN : List Nat → List D → En → Option En
  | [], [], env => some env
  | i :: is, d :: ds, env => asgN is ds (env.set i (some d))
  | _, _, _ => none
def asgD : Tg → D → En → Option En
  | .n i, d, env => some (env.set i (some d))
  | .t is, .tup xs, env => asgN is xs env
  | .t is, .pr xs, env => asgN is xs env
  | _, _, _ => none
def wipeE (env : En) : List Nat → En
  | [] => env
  | v :: vs => (wipeE env vs).set v none
def asB : D → Option Bool
  | .bl b => some b
  | _ => none
/-- what a comprehension makes -/
def compGo (t : Tg) (c : En → Sto → Res Bool) (el : En → Sto → Res D) (env : En) : List D → Sto → Res (List D)
  | [], M => .ok [] M
  | d :: r, M => match asgD t d env with
    | none => .fail
    | some env1 => (c env1 M).calm.bind fun b M1 =>
        if b then (el env1 M1).calm.bind fun y M2 => (compGo t c el env r M2).bind fun ys M3 => .ok (y :: ys) M3
        else compGo t c el env r M1
def zipD : List D → List D → List D
  | x :: xs, y :: ys => .pr [x, y] :: zipD xs ys
  | _, _ => []
def enmD : Nat → List D → List D
  | _, [] => []
  | n, x :: xs => .pr [.int n, x] :: enmD (n + 1) xs
/-- what is walked: a text's signs, a tuple's, a value list's items -/
def walkD : D → Option (List D)
  | .str s => if fitLen s.length then some (s.cps.toList.map fun c => .str ⟨#[c]⟩) else none
  | .tup xs => some xs
  | .lst xs => some xs
  | .scr xs => some xs
  | _ => none
abbrev Calls := String → List D → Sto → Res D
/-- the word for an error -/
def HF.tag (hs : List (String × Str)) (c : String) : Option Str := (hs.find? fun h => decide (h.1 = c)).map (·.2)
/-- what such a def answers -/
def hearD (h : HF) (r : Res D) : Res D := match r with
  | .ok d M => .ok (.tup [.str "told", match h.k with
    | .zero => .int 0
    | _ => d]) M
  | .exc c (some d) M => (match HF.tag h.hs c with
    | some t => .ok (.tup [.str t, d]) M
    | none => .fail)
  | _ => .fail
/-- a comprehension with two fors: the second source is reckoned anew behind each turn's store -/
def compGo2 (t : Tg) (c : En → Sto → Res Bool) (it1 : En → Sto → Res (List D)) (t1 : Tg) (c1 : En → Sto → Res Bool) (el : En → Sto → Res D) (own1 : List Nat) (env : En) : List D → Sto → Res (List D)
  | [], M => .ok [] M
  | d :: r, M => match asgD t d env with
    | none => .fail
    | some env1 => (c env1 M).calm.bind fun b M1 =>
        if b then (it1 env1 M1).calm.bind fun items1 M2 =>
          if decide (items1.length ≤ 1000) then (compGo t1 c1 el (wipeE env1 own1) items1 M2).bind fun ys M3 => (compGo2 t c it1 t1 c1 el own1 env r M3).bind fun zs M4 => .ok (ys ++ zs) M4 else .fail
        else compGo2 t c it1 t1 c1 el own1 env r M1
mutual
def evE (C : Calls) : E → En → Sto → Res D
  | .var i, env, M => (match env[i]? with
    | some (some d) => .ok d M
    | _ => .fail)
  | .cst d, _, M => .ok d M
  | .gl _ d, _, M => .ok d M
  | .bin op a b, env, M => (evE C a env M).bind fun x M1 => (evE C b env M1).bind fun y M2 => binD op x y M2
  | .neg a, env, M => (evE C a env M).bind fun x M1 => (match x with
    | .int i => .ok (.int (-i)) M1
    | _ => .fail)
  | .cmp op a b, env, M => (evE C a env M).bind fun x M1 => (evE C b env M1).bind fun y M2 => (ofO (cmpD M2 op x y) M2).bind fun k M3 => .ok (.bl k) M3
  | .chain o1 o2 a b c, env, M => (evE C a env M).bind fun x M1 => (evE C b env M1).bind fun y M2 => (ofO (cmpD M2 o1 x y) M2).bind fun k M3 =>
      if k then (evE C c env M3).bind fun z M4 => (ofO (cmpD M4 o2 y z) M4).bind fun k2 M5 => .ok (.bl k2) M5 else .ok (.bl false) M3
  | .isN g a, env, M => (evE C a env M).bind fun x M1 => .ok (.bl (match x with | .non => !g | _ => g)) M1
  | .isB g b a, env, M => (evE C a env M).bind fun x M1 => .ok (.bl (match x with | .bl c => (c == b) != g | _ => g)) M1
  | .boo k es, env, M => evBoo C k es env M
  | .not a, env, M => (evE C a env M).bind fun x M1 => (ofO (asB x) M1).bind fun k M2 => .ok (.bl (!k)) M2
  | .ite c a b, env, M => (evE C c env M).bind fun x M1 => (ofO (asB x) M1).bind fun k M2 => if k then evE C a env M2 else evE C b env M2
  | .tup es, env, M => (evEs C es env M).bind fun xs M1 => .ok (.tup xs) M1
  | .tstar a b, env, M => (evE C a env M).bind fun x M1 => (evE C b env M1).bind fun y M2 => starD x y M2
  | .lst m es, env, M => (evEs C es env M).bind fun xs M1 => newList m xs M1
  | .dic0, _, M => .ok (.loc M.length) (M ++ [.dct []])
  | .idx a i, env, M => (evE C a env M).bind fun x M1 => (evE C i env M1).bind fun y M2 => ofO (idxD M2 x y) M2
  | .slc m a lo hi, env, M => (evE C a env M).bind fun x M1 => (evO C lo env M1).bind fun l M2 => (evO C hi env M2).bind fun h M3 => slcD m x l h M3
  | .rev m a, env, M => (evE C a env M).bind fun x M1 => (match x with
    | .lst xs => newList m xs.reverse M1
    | _ => .fail)
  | .call f es, env, M => (evEs C es env M).bind fun xs M1 => C f xs M1
  | .callk f es _ π kes, env, M => (evEs C es env M).bind fun xs M1 => (evEs C kes env M1).bind fun ys M2 => C f (xs ++ permL π ys) M2
  | .bi b m es, env, M => (evEs C es env M).bind fun xs M1 => biD b m xs M1
  | .isi a _ ts, env, M => (evE C a env M).bind fun x M1 => (ofO (tyOf M1 x) M1).bind fun u M2 => .ok (.bl (ts.any (subTy u))) M2
  | .mth f a es, env, M => (evE C a env M).bind fun x M1 => if kindM f M1 x then (evEs C es env M1).bind fun xs M2 => mthD f x xs M2 else .fail
  | .comp m el t it c own, env, M => (evIt C it env M).bind fun items M1 =>
      (compGo t (fun env M => evC C c env M) (fun env M => evE C el env M) (wipeE env own) items M1).bind fun ys M2 => newList m ys M2
  | .comp2 m el t it c t1 it1 c1 own own1, env, M => (evIt C it env M).bind fun items M1 => if decide (items.length ≤ 1000) then
      (compGo2 t (fun env M => evC C c env M) (fun env M => evIt C it1 env M) t1 (fun env M => evC C c1 env M) (fun env M => evE C el env M) own1 (wipeE env own) items M1).bind fun ys M2 => newList m ys M2 else .fail
  | .heard _ h body, env, M => hearD h (evE C body env M)
  | .frz a, env, M => (evE C a env M).bind fun x M1 => frzD x M1
  | .nvr, _, _ => .fail
def evBoo (C : Calls) (k : Bool) : Es → En → Sto → Res D
  | .nil, _, _ => .fail
  | .cons e .nil, env, M => evE C e env M
  | .cons e (.cons e2 r), env, M => (evE C e env M).bind fun x M1 => (ofO (asB x) M1).bind fun b M2 => if b == k then evBoo C k (.cons e2 r) env M2 else .ok (.bl (!k)) M2
def evEs (C : Calls) : Es → En → Sto → Res (List D)
  | .nil, _, M => .ok [] M
  | .cons e es, env, M => (evE C e env M).bind fun x M1 => (evEs C es env M1).bind fun xs M2 => .ok (x :: xs) M2
def evO (C : Calls) : Oe → En → Sto → Res (Option Int)
  | .non, _, M => .ok none M
  | .som e, env, M => (evE C e env M).bind fun x M1 => (match x with
    | .int i => .ok (some i) M1
    | _ => .fail)
/-- a comprehension's test -/
def evC (C : Calls) : Oe → En → Sto → Res Bool
  | .non, _, M => .ok true M
  | .som e, env, M => (evE C e env M).bind fun x M1 => ofO (asB x) M1
def evIt (C : Calls) : It → En → Sto → Res (List D)
  | .sq e, env, M => (evE C e env M).bind fun x M1 => ofO (walkD x) M1
  | .rng es, env, M => (evEs C es env M).bind fun xs M1 => (match xs with
    | [.int n] => if fitLen n.natAbs then .ok (rngD 0 n.toNat) M1 else .fail
    | [.int lo, .int hi] => if fitLen lo.natAbs && fitLen hi.natAbs then .ok (rngD lo (hi - lo).toNat) M1 else .fail
    | _ => .fail)
  | .enm e, env, M => (evE C e env M).bind fun x M1 => (match x with
    | .lst xs => .ok (enmD 0 xs) M1
    | _ => .fail)
  | .zip a b, env, M => (evE C a env M).bind fun x M1 => (evE C b env M1).bind fun y M2 => (match x, y with
    | .lst xs, .lst ys => .ok (zipD xs ys) M2
    | .tup xs, .tup ys => .ok (zipD xs ys) M2
    | _, _ => .fail)
end
inductive Fl where
  | nx (env : En)
  | brk (env : En)
  | cnt (env : En)
  | ret (d : D)
  | exc (env : En) (c : String) (p : Option D)
/-- statements tell how they end -/
inductive Out where
  | ok (f : Fl) (M : Sto)
  | fail
def Res.out {α : Type} (r : Res α) (env : En) (f : α → Sto → Out) : Out := match r with
  | .ok a M => f a M
  | .exc c p M => .ok (.exc env c p) M
  | .fail => .fail
@[simp] theorem out_ok {α : Type} (a : α) (M : Sto) (env : En) (f : α → Sto → Out) : (Res.ok a M).out env f = f a M := rfl
@[simp] theorem out_exc {α : Type} (c : String) (p : Option D) (M : Sto) (env : En) (f : α → Sto → Out) : (Res.exc c p M : Res α).out env f = .ok (.exc env c p) M := rfl
@[simp] theorem out_fail {α : Type} (env : En) (f : α → Sto → Out) : (Res.fail : Res α).out env f = .fail := rfl
def Out.next (o : Out) (f : En → Sto → Out) : Out := match o with
  | .ok (.nx env) M => f env M
  | o => o
@[simp] theorem next_nx (env : En) (M : Sto) (f : En → Sto → Out) : (Out.ok (.nx env) M).next f = f env M := rfl
@[simp] theorem next_ret (d : D) (M : Sto) (f : En → Sto → Out) : (Out.ok (.ret d) M).next f = .ok (.ret d) M := rfl
@[simp] theorem next_brk (env : En) (M : Sto) (f : En → Sto → Out) : (Out.ok (.brk env) M).next f = .ok (.brk env) M := rfl
@[simp] theorem next_cnt (env : En) (M : Sto) (f : En → Sto → Out) : (Out.ok (.cnt env) M).next f = .ok (.cnt env) M := rfl
@[simp] theorem next_exc (env : En) (c : String) (p : Option D) (M : Sto) (f : En → Sto → Out) : (Out.ok (.exc env c p) M).next f = .ok (.exc env c p) M := rfl
@[simp] theorem next_fail (f : En → Sto → Out) : Out.fail.next f = .fail := rfl
/-- a loop's turns -/
def forGo (t : Tg) (b : En → Sto → Out) : List D → En → Sto → Out
  | [], env, M => .ok (.nx env) M
  | d :: r, env, M => match asgD t d env with
    | none => .fail
    | some env1 => (match b env1 M with
      | .ok (.nx env2) M2 => forGo t b r env2 M2
      | .ok (.cnt env2) M2 => forGo t b r env2 M2
      | .ok (.brk env2) M2 => .ok (.nx env2) M2
      | o => o)
/-- so many turns of a while at most -/
def whlN (c : En → Sto → Res D) (b : En → Sto → Out) : Nat → En → Sto → Out
  | 0, _, _ => .fail
  | n + 1, env, M => (c env M).out env fun x M1 => match x with
    | .bl true => (match b env M1 with
      | .ok (.nx env2) M2 => whlN c b n env2 M2
      | .ok (.cnt env2) M2 => whlN c b n env2 M2
      | .ok (.brk env2) M2 => .ok (.nx env2) M2
      | o => o)
    | .bl false => .ok (.nx env) M1
    | _ => .fail
open Classical in
noncomputable def whlGo (c : En → Sto → Res D) (b : En → Sto → Out) (env : En) (M : Sto) : Out :=
  if h : ∃ n, whlN c b n env M ≠ .fail then whlN c b (Classical.choose h) env M else .fail
/-- .. of a try whose clauses tell what is kept of the error -/
def hearS (hs : List (String × Str)) (o : Out) : Out := match o with
  | .ok (.exc _ c (some d)) M => (match HF.tag hs c with
    | some t => .ok (.ret (.tup [.str t, d])) M
    | none => .fail)
  | .ok (.exc _ _ none) _ => .fail
  | o => o
mutual
noncomputable def evS (C : Calls) : S → En → Sto → Out
  | .ex e, env, M => (evE C e env M).out env fun _ M1 => .ok (.nx env) M1
  | .asg t e, env, M => (evE C e env M).out env fun x M1 => (match asgD t x env with
    | some env1 => .ok (.nx env1) M1
    | none => .fail)
  | .asgIx a i e, env, M => (evE C e env M).out env fun v M1 => (evE C a env M1).out env fun x M2 => (evE C i env M2).out env fun y M3 => (setIx x y v M3).out env fun _ M4 => .ok (.nx env) M4
  | .aug i op e, env, M => (match env[i]? with
    | some (some x) => (evE C e env M).out env fun y M1 => (match x, y with
      | .int p, .int q => (binD op (.int p) (.int q) M1).out env fun z M2 => .ok (.nx (env.set i (some z))) M2
      | _, _ => .fail)
    | _ => .fail)
  | .ret .non, _, M => .ok (.ret .non) M
  | .ret (.som e), env, M => (evE C e env M).out env fun x M1 => .ok (.ret x) M1
  | .iff c a b, env, M => (evE C c env M).out env fun x M1 => (match x with
    | .bl true => evSs C a env M1
    | .bl false => evSs C b env M1
    | _ => .fail)
  | .whl c b, env, M => whlGo (fun env M => evE C c env M) (fun env M => evSs C b env M) env M
  | .for_ t it b, env, M => (evIt C it env M).out env fun items M1 => forGo t (fun env M => evSs C b env M) items env M1
  | .rais c es, env, M => (evEs C es env M).out env fun xs M1 => (match xs with
    | [] => .ok (.exc env c none) M1
    | [d] => .ok (.exc env c (some d)) M1
    | _ => .fail)
  | .tr b _ hs, env, M => hearS hs (evSs C b env M)
  | .pas, env, M => .ok (.nx env) M
  | .brk, env, M => .ok (.brk env) M
  | .cnt, env, M => .ok (.cnt env) M
  | .nvr, _, _ => .fail
noncomputable def evSs (C : Calls) : Ss → En → Sto → Out
  | .nil, env, M => .ok (.nx env) M
  | .cons s r, env, M => (evS C s env M).next fun env1 M1 => evSs C r env1 M1
end
/-! ### defs -/
mutual
/-- no place in it -/
def D.still : D → Bool
  | .tup xs => D.stills xs
  | .lst xs => D.stills xs
  | .scr _ => false
  | .loc _ => false
  | .pr _ => false
  | _ => true
def D.stills : List D → Bool
  | [] => true
  | x :: xs => D.still x && D.stills xs
end
mutual
/-- a value with the lists made since n told by what they hold; none where something else is new -/
def D.frz (M : Sto) (n : Nat) : D → Option D
  | .tup xs => (D.frzs M n xs).map .tup
  | .lst xs => (D.frzs M n xs).map .lst
  | .scr xs => (D.frzs M n xs).map .scr
  | .pr _ => none
  | .loc k => if k < n then some (.loc k) else (match M[k]? with
    | some (.lst xs) => if D.stills xs then some (.lst xs) else none
    | _ => none)
  | d => some d
def D.frzs (M : Sto) (n : Nat) : List D → Option (List D)
  | [] => some []
  | x :: xs => (D.frz M n x).bind fun y => (D.frzs M n xs).map (y :: ·)
end
open Classical in
/-- behind a def that leaves nothing new: the store as it was -/
noncomputable def back (own : Bool) (M : Sto) (d : D) (M' : Sto) : Res D :=
  if own = true then (if M'.take M.length = M then (match D.frz M' M.length d with
    | some r => .ok r M
    | none => .fail) else .fail) else .ok d M'
open Classical in
/-- .. and an error leaves it -/
noncomputable def backX (own : Bool) (M : Sto) (c : String) (p : Option D) (M' : Sto) : Res D :=
  if own = true then (if M'.take M.length = M then (match p with
    | none => .exc c none M
    | some d => (match D.frz M' M.length d with
      | some r => .exc c (some r) M
      | none => .fail)) else .fail) else .exc c p M'
noncomputable def runF (C : Calls) (fn : Fn) (ds : List D) (M : Sto) : Res D :=
  if ds.length = fn.np then
    (match evSs C fn.body (ds.map some ++ List.replicate (fn.ns - fn.np) none) M with
    | .ok (.nx _) M' => back fn.own M .non M'
    | .ok (.ret d) M' => back fn.own M d M'
    | .ok (.exc _ c p) M' => backX fn.own M c p M'
    | _ => .fail)
  else .fail
noncomputable def callN (T : String → Option Fn) : Nat → Calls
  | 0 => fun _ _ _ => .fail
  | n + 1 => fun f ds M => match T f with
    | some fn => runF (callN T (n - fn.low)) fn ds M
    | none => .fail
termination_by n => n
decreasing_by omega
end Z


namespace ZT
open PySem PySem.Spec PyProof.Rows L2
def keyT (e : Int × Value) : Str := PyProof.Rows.strOf e.2
def GoodT (w : World) (e : Int × Value) : Prop := ∃ k tk, e.2 = Value.str k tk ∧ e.1 = hashStr w k

/-- the set of ints at a: S its members, n their number; its table rises and can be walked -/
def SetT (w : World) (h : Heap) (a : Addr) (S : Str → Bool) (n : Nat) : Prop :=
  ∃ o es ep t, h.get? a = some o ∧ o.ExactSet ∧ o.data = .set es ep t ∧ (∀ e ∈ es.toList, GoodT w e) ∧ (es.toList.map keyT).Nodup ∧ (∀ k, S k = true ↔ k ∈ es.toList.map keyT) ∧
    es.size < scanBound ∧ t.fits es.size = true ∧ es.size = n ∧ Ris t.place.toList ∧ (w.params.followText "set-order" = true ∨ t.led = true)

section
variable {P : Program} {w : World} {h h' : Heap} {a : Addr} {S : Str → Bool} {n : Nat}

theorem SetT.at (R : SetT w h a S n) (k : ∀ o, h.get? a = some o → h'.get? a = some o) : SetT w h' a S n := by
  obtain ⟨o, es, ep, t, ho, r⟩ := R
  exact ⟨o, es, ep, t, k o ho, r⟩
theorem SetT.lt (R : SetT w h a S n) : a < h.objs.size := by
  obtain ⟨o, es, ep, t, ho, r⟩ := R
  exact Heap.lt_size ho
theorem SetT.congr {S' : Str → Bool} (R : SetT w h a S n) (e : ∀ k, S' k = S k) : SetT w h a S' n := by
  have q : S' = S := funext e
  rw [q]; exact R
theorem goodT_elems {l : List (Int × Value)} (g : ∀ e ∈ l, GoodT w e) : ElemsOf (strKind P w) l := fun e he => by
  obtain ⟨k, tk, h1, h2⟩ := g e he
  exact ⟨⟨k, by rw [h1]; exact PySem.Froz.is_str k tk, h2⟩, by rw [h1] <;> rfl⟩
theorem goodT_is {e : Int × Value} (g : GoodT w e) (k : Str) : (strKind P w).is k e.2 = true ↔ keyT e = k := by
  obtain ⟨k0, tk, h1, _⟩ := g
  unfold keyT
  rw [h1]
  show ((k0 == k) = true) ↔ k0 = k
  exact beq_iff_eq
theorem goodT_mem {l : List (Int × Value)} (g : ∀ e ∈ l, GoodT w e) (k : Str) : k ∈ l.map keyT ↔ ∃ e ∈ l, (strKind P w).is k e.2 = true := by
  rw [List.mem_map]
  constructor
  · rintro ⟨e, he, q⟩
    exact ⟨e, he, (goodT_is (g e he) k).2 q⟩
  · rintro ⟨e, he, q⟩
    exact ⟨e, he, (goodT_is (g e he) k).1 q⟩
theorem SetT.setOf (R : SetT w h a S n) : h.SetOf (strKind P w) a S n := by
  obtain ⟨o, es, ep, t, ho, hx, hd, g, nd, hm, hb, hf, hn, _⟩ := R
  exact ⟨o, es, ep, t, ho, hx, hd, goodT_elems g, fun k => (hm k).trans (goodT_mem g k), hb, hf, hn⟩
end

section
variable {P : Program} {w : World} {A : Around} {E : Value → Shared → Prop} {s : Shared} {a : Addr} {S : Str → Bool} {n : Nat}

/-! ### add -/
theorem storeT_at {h : Heap} {a : Addr} {o : Obj} {es es' : Array (Int × Value)} {ep : Nat} {t t' : SetTable} (ho : h.get? a = some o) (hd : o.data = .set es ep t) :
    (h.update a (Obj.putSet es' t')).get? a = some { o with data := .set es' (ep + 1) t' } := by
  have q := Heap.get?_update_self (Obj.putSet es' t') ho (by rw [putSet_of es' t' hd]; rfl)
  rw [putSet_of es' t' hd] at q
  exact q

theorem setT_add_tail {g : Bool → Sem Unit} (hg : ∀ (b : Bool) (s₁ : Shared) (Q' : Unit → Shared → Prop), Q' () s₁ → wpAny (model P w) A (g b) Q' E s₁)
    {o : Obj} {es : Array (Int × Value)} {ep : Nat} {t : SetTable} (ho : s.heap.get? a = some o) (hex : o.ExactSet) (hd : o.data = .set es ep t)
    {es1 : Array (Int × Value)} {t2 : SetTable} {S' : Str → Bool} (g1 : ∀ e ∈ es1.toList, GoodT w e) (nd1 : (es1.toList.map keyT).Nodup) (m1 : ∀ k, S' k = true ↔ k ∈ es1.toList.map keyT)
    (hb1 : es1.size < scanBound) (hf2 : t2.fits es1.size = true) (hr : Ris t2.place.toList) (hl : w.params.followText "set-order" = true ∨ t2.led = true) {wasDummy : Bool} {R : Option Bool → Shared → Prop}
    (hR : ∀ h', Heap.SameBut a s.heap h' → SetT w h' a S' es1.size → R (some true) { s with heap := h' }) :
    wpAny (model P w) A (do
        storeSet a es1 t2
        if (!wasDummy && t2.tooFull) = true then do
            g (relayAll t2 es1 (SetTable.grown es1.size)).2.2
            storeSet a (relayAll t2 es1 (SetTable.grown es1.size)).1 (relayAll t2 es1 (SetTable.grown es1.size)).2.1
            pure (some true)
          else pure (some true)) R E s := by
  refine wpAny_bind (wpAny_storeSet_of ho hd ?_ (fits_of_scanBound hb1))
  have ho1 := storeT_at (es' := es1) (t' := t2) ho hd
  have sb1 := Heap.SameBut.update s.heap a (Obj.putSet es1 t2)
  split
  · have pm := relayAll_perm t2 es1 (SetTable.grown es1.size)
    have hf3 := relayAll_fits t2 es1 (SetTable.grown es1.size)
    have hr3 := relayAll_ris t2 es1 (SetTable.grown es1.size)
    have hl3 := relayAll_led t2 es1 (SetTable.grown es1.size)
    generalize relayAll t2 es1 (SetTable.grown es1.size) = Z at pm hf3 hr3 hl3 ⊢
    obtain ⟨es2, t3, gave⟩ := Z
    dsimp only at pm hf3 hr3 hl3 ⊢
    have hsz : es2.size = es1.size := by rw [← Array.length_toList, pm.length_eq, Array.length_toList]
    have hb2 : es2.size < scanBound := by rw [hsz]; exact hb1
    refine wpAny_bind (hg _ _ _ ?_)
    refine wpAny_bind (wpAny_storeSet_of ho1 rfl ?_ (fits_of_scanBound hb2))
    have ho2 := storeT_at (es' := es2) (t' := t3) ho1 rfl
    refine wpAny_pure (hR _ (sb1.trans (Heap.SameBut.update _ a _)) ?_)
    exact ⟨_, es2, _, t3, ho2, hex, rfl, fun e he => g1 e (pm.mem_iff.mp he), (pm.map keyT).nodup_iff.mpr nd1, fun k => (m1 k).trans (pm.map keyT).mem_iff.symm, hb2, hf3, hsz, hr3,
      hl.imp id fun z => by rw [hl3]; exact z⟩
  · exact wpAny_pure (hR _ sb1 ⟨_, es1, _, t2, ho1, hex, rfl, g1, nd1, m1, hb1, hf2, rfl, hr, hl⟩)

theorem setT_add_hashed {k : Str} {tk : Tok} {Q : Bool → Shared → Prop} (R : SetT w s.heap a S n) (room : n + 1 < scanBound)
    (hQ : ∀ h', Heap.SameBut a s.heap h' → SetT w h' a (fun j => S j || decide (j = k)) (if S k = true then n else n + 1) → Q (!S k) { s with heap := h' }) :
    wpAny (model P w) A (setAddHashed a (.str k tk) ((strKind P w).hash k)) Q E s := by
  obtain ⟨o, es, ep, t, ho, hex, hd, g, nd, hm, hb, hf, hn, hr, hl⟩ := R
  have hkey : (strKind P w).is k (.str k tk) = true := PySem.Froz.is_str k tk
  have hsc : (Value.str k tk).scannable = true := rfl
  have hel : ElemsOf (strKind P w) es.toList := goodT_elems g
  unfold setAddHashed setAddHashedIn
  refine wpAny_holding (wpAny_bind (wpAny_setState_of ho hd hf ?_))
  dsimp only
  rw [byScan_of hsc hb hel]
  simp only [↓reduceIte]
  unfold setAddByScan
  refine wpAny_bind ?_
  refine wpAny_bind (wpAny_rule ?_)
  refine wpAny_bind (wpAny_setScan_of hkey ho hd hf hel ?_)
  cases hfi : List.findIdx? (fun e => (strKind P w).is k e.2) es.toList with
  | some j =>
    dsimp only
    obtain ⟨hj, pj, _⟩ := List.findIdx?_eq_some_iff_getElem.mp hfi
    have hSk : S k = true := (hm k).2 ((goodT_mem (P := P) (w := w) g k).2 ⟨es.toList[j], List.getElem_mem hj, pj⟩)
    refine wpAny_pure (wpAny_pure ?_)
    have q := hQ s.heap (Heap.SameBut.refl a s.heap) ⟨o, es, ep, t, ho, hex, hd, g, nd, fun i => by
      rw [Bool.or_eq_true, decide_eq_true_eq, ← hm i]
      exact ⟨fun z => z.elim id (fun e => e ▸ hSk), .inl⟩, hb, hf, by rw [if_pos hSk]; exact hn, hr, hl⟩
    rw [hSk] at q
    exact q
  | none =>
    dsimp only
    have hnk : k ∉ es.toList.map keyT := fun z => by
      obtain ⟨e, he, q⟩ := (goodT_mem (P := P) (w := w) g k).1 z
      have c := List.findIdx?_eq_none_iff.mp hfi e he
      rw [q] at c
      cases c
    have hSk : S k = false := by
      cases q : S k with
      | false => rfl
      | true => exact absurd ((hm k).1 q) hnk
    have hgw : ∀ (b : Bool) {s₁ : Shared} {Q' : Unit → Shared → Prop}, Q' () s₁ → wpAny (model P w) A (match b with | true => rule "set.scan.the-table-gave-way" | false => pure ()) Q' E s₁ :=
      fun b s₁ Q' q => by cases b <;> first | exact wpAny_pure q | exact wpAny_rule q
    have pm := layNew_perm t es ((strKind P w).hash k) (.str k tk)
    have hf1 := layNew_fits t es ((strKind P w).hash k) (.str k tk)
    have hr1 := layNew_ris t es ((strKind P w).hash k) (.str k tk) hr
    have hl1 := layNew_led t es ((strKind P w).hash k) (.str k tk)
    generalize layNew t es ((strKind P w).hash k) (.str k tk) = Z at pm hf1 hr1 hl1 ⊢
    obtain ⟨es1, t1, wasDummy, gave⟩ := Z
    dsimp only at pm hf1 hr1 hl1 ⊢
    rw [Array.toList_push] at pm
    have pc : es1.toList.Perm (((strKind P w).hash k, Value.str k tk) :: es.toList) := pm.trans (List.perm_append_singleton _ _)
    have pk : (es1.toList.map keyT).Perm (k :: es.toList.map keyT) := pc.map keyT
    have g1 : ∀ e ∈ es1.toList, GoodT w e := fun e he => by
      rcases List.mem_cons.mp (pc.mem_iff.mp he) with z | z
      · rw [z]; exact ⟨k, tk, rfl, rfl⟩
      · exact g e z
    have nd1 : (es1.toList.map keyT).Nodup := pk.nodup_iff.mpr (List.nodup_cons.mpr ⟨hnk, nd⟩)
    have m1 : ∀ i, (S i || decide (i = k)) = true ↔ i ∈ es1.toList.map keyT := fun i => by
      rw [Bool.or_eq_true, decide_eq_true_eq, hm i, pk.mem_iff, List.mem_cons]
      exact Or.comm
    have hsz : es1.size = n + 1 := by rw [← Array.length_toList, pc.length_eq, List.length_cons, Array.length_toList, hn]
    have hb1 : es1.size < scanBound := by rw [hsz]; exact room
    have hled : w.params.followText "set-order" = true ∨ t1.led = true := hl.imp id fun z => by rw [hl1]; exact z
    have fin : ∀ h', Heap.SameBut a s.heap h' → SetT w h' a (fun j => S j || decide (j = k)) es1.size → Q true { s with heap := h' } := fun h' sb r => by
      have q := hQ h' sb
      rw [hSk] at q
      rw [hsz] at r
      exact q r
    refine wpAny_bind (hgw _ ?_)
    split
    · refine wpAny_bind ?_
      rw [hashByValue_scannable 8 hsc]
      refine wpAny_pure ?_
      refine setT_add_tail ?_ ho hex hd g1 nd1 m1 hb1 ?_ ?_ ?_ ?_
      · intro b s₁ Q' q; cases b <;> first | exact wpAny_pure q | exact wpAny_rule q
      · first | (split <;> first | exact hf1 | exact SetTable.fits_plain_off hf1) | exact hf1
      · first | (split <;> exact hr1) | exact hr1
      · first | (split <;> exact hled) | exact hled
      · intro h' sb r; dsimp only; exact wpAny_pure (fin h' sb r)
    · refine wpAny_bind (wpAny_pure ?_)
      simp only [↓reduceIte]
      refine setT_add_tail ?_ ho hex hd g1 nd1 m1 hb1 hf1 hr1 hled ?_
      · intro b s₁ Q' q; cases b <;> first | exact wpAny_pure q | exact wpAny_rule q
      · intro h' sb r; dsimp only; exact wpAny_pure (fin h' sb r)

end
/-! ### set(t) of a tuple of ints -/
theorem setT_new_at {w : World} {h : Heap} {a : Addr} {ns : List Str} (ho : h.get? a = some { cls := .type "set", dict := none, data := .set #[] 0 (.fresh 0 0 (!w.params.followText "set-order")) }) : SetT w h a (fun j => decide (j ∈ ns.take 0)) 0 :=
  ⟨_, #[], 0, _, ho, ⟨rfl, rfl, rfl⟩, rfl, (fun e he => by simp at he), (by simp), (fun k => by simp), (by decide), (by rfl), rfl, List.Pairwise.nil, by
    show _ ∨ (!w.params.followText "set-order") = true
    cases w.params.followText "set-order"
    · exact .inr rfl
    · exact .inl rfl⟩
section
variable {P : Program} {w : World} {A : Around} {E : Value → Shared → Prop} {s : Shared}
theorem set_update_strs {I : Addr} {fp wr : List Addr} {G : Array GenState → Array GenState → Prop} {n : Nat} {Pv : Nat → Value → Prop} {St : Nat → Shared → Prop} {R : Result → Shared → Prop}
    (W : WalksS P w A.in1 I fp wr G n Pv St) (S : Addr) (hSf : S ∉ fp) (ns : List Str) (hn : n = ns.length) (hb : ns.length + 1 < scanBound) (hval : ∀ i v, Pv i v → ∃ k t, ns[i]? = some k ∧ v = .str k t) :
    ∀ (k i : Nat) (s : Shared), n - i = k → i ≤ n → St i s → (∃ c, c ≤ i ∧ SetT w s.heap S (fun j => decide (j ∈ ns.take i)) c) →
      (∀ s' c, Moved (S :: wr) G s s' → c ≤ n → SetT w s'.heap S (fun j => decide (j ∈ ns)) c → R (.ok (.ret .none)) s') →
      codeAny (model P w) A (.builtin "set.update.loop" ⟨[.ref S, .ref I], []⟩) R s := by
  have hSw : S ∉ wr := fun h => hSf (W.sub _ h)
  have hsub : ∀ b ∈ wr, b ∈ S :: wr := fun b hb => List.mem_cons_of_mem _ hb
  intro k
  induction k with
  | zero =>
    intro i s hk' hi hst ⟨c, hc, hS⟩ hR
    have hin : i = n := by omega
    subst hin
    refine codeAny_builtin F.entry_set_update_loop ?_
    rw [Around.under_plainId F.plain_set_update_loop _]
    show wpAny _ A.in1 (pyNext (.ref I) >>= _) _ _ s
    refine wpAny_bind (W.done s _ _ hst fun s' hm => ?_)
    show wpAny _ A.in1 (ret Value.none) _ _ s'
    have e : ns.take i = ns := List.take_of_length_le (by omega)
    rw [e] at hS
    exact wpAny_pure (hR s' c (hm.mono hsub) hc (hS.at fun o e => hm.heap S o hSw e))
  | succ k ih =>
    intro i s hk' hi hst ⟨c, hc, hS⟩ hR
    have hlt : i < n := by omega
    refine codeAny_builtin F.entry_set_update_loop ?_
    rw [Around.under_plainId F.plain_set_update_loop _]
    show wpAny _ A.in1 (pyNext (.ref I) >>= _) _ _ s
    refine wpAny_bind (W.item i s _ _ hlt hst fun v s' hP hst' hm => ?_)
    obtain ⟨z, t, hz, rfl⟩ := hval i v hP
    have hS' : SetT w s'.heap S (fun j => decide (j ∈ ns.take i)) c := hS.at fun o e => hm.heap S o hSw e
    show wpAny _ A.in1 (holding [Value.str z t] (setAdd S (.str z t)) >>= _) _ _ s'
    refine wpAny_bind (wpAny_holding ?_)
    unfold setAdd
    refine wpAny_holding ?_
    refine wpAny_bind ((strKind P w).pyHash (k := z) (PySem.Froz.is_str _ _) ?_)
    refine setT_add_hashed (s := { s' with toks := s'.toks + 1 }) hS' (by omega) fun h' hsb hS2 => ?_
    have hS3 : SetT w h' S (fun j => decide (j ∈ ns.take (i + 1))) (if decide (z ∈ ns.take i) = true then c else c + 1) := hS2.congr fun j => by
      rw [List.take_add_one, hz]
      simp [List.mem_append]
    have hc3 : (if decide (z ∈ ns.take i) = true then c else c + 1) ≤ i + 1 := by
      split <;> omega
    refine wpAny_pure ⟨plainId_quiet F.plain_set_update_loop _, ih (i + 1) _ (by omega) hlt (W.frame _ s' _ _ hst' (Nat.le_succ _) fun b hb o e => ?_) ⟨_, hc3, hS3⟩ fun s'' c2 hm'' hc'' hS'' => ?_⟩
    · rw [hsb.2 b (fun h : b = S => hSf (by rw [← h]; exact hb))]; exact e
    · refine hR s'' c2 (Moved.trans W.gtrans ((hm.mono hsub).then_heap (Nat.le_succ _) fun b o hb e => ?_) hm'') hc'' hS''
      rw [hsb.2 b (fun h : b = S => hb (by rw [h]; exact List.mem_cons_self))]; exact e

theorem code_set_ledT (a : Value) {Q₁ : Value → Shared → Prop}
    (h : Q₁ (.ref s.heap.objs.size) { s with heap := s.heap.push { cls := .type "set", dict := none, data := .set #[] 0 (.fresh 0 0 (!w.params.followText "set-order")) } }) :
    codeAny (model P w) A (.call (.builtin "set.__new__") ⟨[.type "set", a], []⟩) (wants Q₁ E) s := by
  refine codeAny_of_tree ?_
  show wpAny _ A.in1 (do checkBuiltinCall "set.__new__" ⟨[.type "set", a], []⟩; again (.builtin "set.__new__" ⟨[.type "set", a], []⟩)) _ _ s
  refine wpAny_bind (wpAny_of_eq (F.newCall_set_1 a) (wpAny_pure ⟨plainId_quiet F.plain_set_new _, codeAny_builtin F.entry_set_new ?_⟩))
  rw [Around.under_plainId F.plain_set_new _]
  unfold Builtin.«set.__new__» Builtin.Frozenset.newClass
  have hsub := sub_set_self
  obtain ⟨hp, g, d, tk, os⟩ := s
  dsimp only
  wp_walk
  refine wpAny_askSetting (wpAny_pure ?_)
  dsimp only
  simp only [newObj]
  refine wpAny_bind (wpAny_alloc (wpAny_pure ?_))
  exact wpAny_pure h

set_option maxRecDepth 100000 in
set_option maxHeartbeats 3200000 in
theorem call_set_lstS {l : Addr} {items : Array Value} (ns : List Str) {Q : Value → Shared → Prop} (hh : A.handled = none) (hl : s.heap.IsList l items) (hit : StrsAre items.toList ns) (hb : ns.length + 1 < scanBound)
    (h : ∀ (h' : Heap) (tk c : Nat), SetT w h' s.heap.objs.size (fun j => decide (j ∈ ns)) c → c ≤ ns.length → (∀ b o, s.heap.get? b = some o → h'.get? b = some o) → Q (.ref s.heap.objs.size) { s with heap := h', toks := tk }) :
    wpAny (model P w) A (call (.type "set") [.ref l]) Q E s := by
  have hisz : items.size = ns.length := by
    have q := StrsAre.length hit
    rw [Array.length_toList] at q
    exact q
  obtain ⟨c, tl, hmro⟩ := F.called_set.mro
  have hmade := F.called_set.made
  have hsub := F.called_set.sub
  refine wpAny_call (codeAny_of_tree ?_)
  show wpAny _ _ (callAny (.type "set") _) _ _ _
  refine wpAny_pure ⟨Code.quiet_builtin _ (by decide +kernel), codeAny_builtin F.entry_type_call ?_⟩
  rw [Around.under_plain (weight_type_call_type "set" [.ref l] []) rfl]
  have h1 := F.called_set.notType
  have h2 := F.called_set.canCreate
  have hct := F.typeCall_set_1 (.ref l)
  repeat (any_goals (first | assumption | wp_step))

  refine codeAny_mono (code_set_ledT (.ref l) (E := E) (Q₁ := fun obj s₁ => obj = .ref s.heap.objs.size ∧ s₁ = { s with heap := s.heap.push { cls := .type "set", dict := none, data := .set #[] 0 (.fresh 0 0 (!w.params.followText "set-order")) } }) ⟨rfl, rfl⟩) fun r s₁ hr => ?_
  cases r with
  | error e => exact hr
  | ok fl =>
    cases fl with
    | ret obj =>
      obtain ⟨rfl, rfl⟩ := hr
      have hS : (s.heap.push { cls := .type "set", dict := none, data := .set #[] 0 (.fresh 0 0 (!w.params.followText "set-order")) }).get? s.heap.objs.size = some { cls := .type "set", dict := none, data := .set #[] 0 (.fresh 0 0 (!w.params.followText "set-order")) } := Heap.get?_push_size _ rfl
      have hT : Shared.TypeIs { s with heap := s.heap.push { cls := .type "set", dict := none, data := .set #[] 0 (.fresh 0 0 (!w.params.followText "set-order")) } } (.ref s.heap.objs.size) "set" := ⟨_, hS, rfl⟩
      have hli := F.called_set.init.lookup
      have hbi := F.called_set.init.bind (.ref s.heap.objs.size)
      repeat (any_goals (first | assumption | wp_step))

      refine codeAny_mono (codeAny_call_builtin (R := wants (fun r s₂ => r = .none ∧ ∃ h' tk c, s₂ = { s with heap := h', toks := tk } ∧ SetT w h' s.heap.objs.size (fun j => decide (j ∈ ns)) c ∧ c ≤ ns.length ∧
          (∀ b o, s.heap.get? b = some o → h'.get? b = some o)) E) F.called_set.init.plain F.entry_set_init (check_set_init_1 hT ?_)) fun r₂ s₂ hr₂ => ?_
      · obtain ⟨ol, hol, hcl, nl, hdl⟩ := hl
        obtain ⟨ocls, odict, odata, oslots⟩ := ol
        simp only at hcl hdl
        subst hcl; subst hdl
        have hol' : (s.heap.push { cls := .type "set", dict := none, data := .set #[] 0 (.fresh 0 0 (!w.params.followText "set-order")) }).get? l = some { cls := .type "list", dict := odict, data := .seq items nl, slots := oslots } := Heap.get?_push_of_some _ hol
        have hsls := F.sub_list_set
        have hslf := F.sub_list_frozenset
        have hne : (Value.type "list" == Value.type "dict") = false := by decide
        have hl1 : (s.heap.push { cls := .type "set", dict := none, data := .set #[] 0 (.fresh 0 0 (!w.params.followText "set-order")) }).IsList l items := ⟨_, hol', rfl, nl, rfl⟩
        unfold Builtin.«set.__init__» noKeywords Builtin.Frozenset.updateFrom
        generalize hPI : pyIter = PI
        wp_walk
        subst hPI

        refine wpAny_pyIter_list hl1 ?_
        refine wpAny_bind (wpAny_runValue ?_)
        have hlS : l < s.heap.objs.size := Heap.lt_size hol
        have hh3 : A.in1.in1.in1.handled = none := by simp [hh]
        have hz1 : (s.heap.push { cls := .type "set", dict := none, data := .set #[] 0 (.fresh 0 0 (!w.params.followText "set-order")) }).objs.size = s.heap.objs.size + 1 := Heap.size_push ..
        have hneI : l ≠ (s.heap.push { cls := .type "set", dict := none, data := .set #[] 0 (.fresh 0 0 (!w.params.followText "set-order")) }).objs.size := by
          rw [Heap.size_push]; exact Nat.ne_of_lt (Nat.lt_succ_of_lt hlS)
        have hSf : s.heap.objs.size ∉ [(s.heap.push { cls := .type "set", dict := none, data := .set #[] 0 (.fresh 0 0 (!w.params.followText "set-order")) }).objs.size, l] := by
          rw [Heap.size_push]; simp only [List.mem_cons, List.mem_singleton, List.not_mem_nil, or_false, not_or]
          exact ⟨Nat.ne_of_lt (Nat.lt_succ_self _), Nat.ne_of_gt hlS⟩
        have hval : ∀ (i : Nat) (v : Value), items[i]? = some v → ∃ k t, ns[i]? = some k ∧ v = .str k t := fun i v hv => by
          obtain ⟨y, t, h1, h2⟩ := PyProof.Rows.StrsAre.item hit i v (by rw [Array.getElem?_toList]; exact hv)
          exact ⟨y, t, h2, h1⟩
        refine set_update_strs ((Walks.list hh3 _ l hneI items).toS) s.heap.objs.size
          hSf ns hisz hb hval (items.size - 0) 0 _ (by omega) (Nat.zero_le _)
          ⟨⟨_, Heap.get?_push_size _ rfl, rfl, rfl⟩, (hl1.push _)⟩ ?hS0 ?hR
        case hS0 =>
          have hget : ((s.heap.push { cls := .type "set", dict := none, data := .set #[] 0 (.fresh 0 0 (!w.params.followText "set-order")) }).push { cls := .type "list_iterator", data := .fields #[.ref l, .int 0 0] }).get? s.heap.objs.size
              = some { cls := .type "set", dict := none, data := .set #[] 0 (.fresh 0 0 (!w.params.followText "set-order")) } := Heap.get?_push_of_some _ hS
          exact ⟨0, Nat.le_refl 0, setT_new_at hget⟩
        case hR =>
          intro s' c' hm hc' hS'
          obtain ⟨h', g2, d', tk', os'⟩ := s'
          have eg : g2 = s.gens := hm.gens
          have ed : d' = s.drawn := hm.drawn
          have eo : os' = s.os := hm.os
          subst eg; subst ed; subst eo
          show wpAny _ _ _ _ _ _
          refine wpAny_pure ?_
          show wpAny _ _ (ret Value.none) _ _ _
          rw [hisz] at hc'
          refine wpAny_pure ⟨rfl, h', tk', c', rfl, hS', hc', fun b o e => ?_⟩
          have hb0 : b < s.heap.objs.size := Heap.lt_size e
          have hb1 : b ≠ s.heap.objs.size := Nat.ne_of_lt hb0
          have hb2 : b ≠ (s.heap.push { cls := .type "set", dict := none, data := .set #[] 0 (.fresh 0 0 (!w.params.followText "set-order")) }).objs.size := by
            rw [Heap.size_push]; exact Nat.ne_of_lt (Nat.lt_succ_of_lt hb0)
          exact hm.heap b o (by simp only [List.mem_cons, List.mem_singleton, List.not_mem_nil, or_false, not_or]; exact ⟨hb1, hb2⟩) (Heap.get?_push_of_some _ (Heap.get?_push_of_some _ e))

      · cases r₂ with
        | error e => exact hr₂
        | ok fl₂ =>
          cases fl₂ with
          | ret r =>
            obtain ⟨rfl, h', tk, c', rfl, hS', hc', hk'⟩ := hr₂
            repeat (any_goals (first | assumption | wp_step))
            exact h _ _ _ hS' hc' hk'
          | _ => exact hr₂.elim
    | _ => exact hr.elim

end

section
variable {P : Program} {w : World} {A : Around} {E : Value → Shared → Prop} {s : Shared} {a : Addr}
theorem sorted_setT2 {S : Str → Bool} {n : Nat} {Q : Value → Shared → Prop} (R : SetT w s.heap a S n) (hh : A.handled = none) (h64 : n < 2001)
    (hQ : ∀ s' p (out : Array Value) (c : Nat) (ns : List Str), (∀ b o, s.heap.get? b = some o → s'.heap.get? b = some o) → s'.gens = s.gens → s'.os = s.os → s.heap.objs.size ≤ p →
      s'.heap.get? p = some (seqObj "list" out c) → StrsAre out.toList ns → sortedS ns = true → ns.Nodup → (∀ k, k ∈ ns ↔ S k = true) → Q (.ref p) s') :
    wpAny (model P w) A (call (.builtin "sorted") [.ref a]) Q E s := by
  obtain ⟨o, es, ep, t, ho, hex, hd, g, nd, hm, hb, hf, hn, hr, hl⟩ := R
  refine Calls.call_function_entry kind_sorted plain_sorted entry_sorted (args_sorted1 _) ?_
  unfold Builtin.«sorted»
  refine wpAny_bind (m := checkCount "sorted" 1 1 _) (wpAny_pure ?_)
  refine wpAny_bind (collect_set (A := A.in1) hh ⟨o, ho, hex.1, hd⟩ hf hb hr hl fun s1 vs k1 hz g1 o1 pm => ?_)
  have hvl : vs.length = n := by rw [pm.length_eq, List.length_map, Array.length_toList]; exact hn
  have hI : StrsAre vs (vs.map PyProof.Rows.strOf) := PyProof.Rows.strsAre_map vs fun v hv => by
    obtain ⟨e, he, q⟩ := List.mem_map.mp (pm.mem_iff.mp hv)
    obtain ⟨k, tk, h1, _⟩ := g e he
    exact ⟨k, tk, by rw [← q]; exact h1⟩
  have pk : (vs.map PyProof.Rows.strOf).Perm (es.toList.map keyT) := by
    have q := pm.map PyProof.Rows.strOf
    rw [List.map_map] at q
    exact q
  refine wpAny_bind (wpAny_newList ?_ (by rw [hvl, sizeLine_eq]; omega))
  have hoL : (s1.heap.push (seqObj "list" vs.toArray 0)).get? s1.heap.objs.size = some (seqObj "list" vs.toArray 0) := Heap.get?_push_size _ rfl
  refine wpAny_bind (wpAny_holding (wpAny_call_entry slot_list_sort ⟨_, hoL, rfl⟩ entry_list_sort (list_sort_treeKAny strKind_oneLt hoL hI.keysOf (fun v₁ v₂ rest e => keyKind_strs (by rw [← e]; exact hI)) (by rw [hvl, sizeLine_eq]; omega) fun st' a1 a2 => ⟨_, rfl, ?_⟩) (args_list_sort _)))
  obtain ⟨ss', b1, b2, b3⟩ := sorted_out_str hI a1 a2
  obtain ⟨c, hc⟩ := sortedHeap_at (vs := vs) (out := (arrOf st').map (·.2)) hoL
  have pn : ss'.Perm (es.toList.map keyT) := b2.trans pk
  refine wpAny_pure ⟨_, rfl, hQ _ s1.heap.objs.size _ c ss' (fun b u e => ?_) g1 o1 hz hc b1 b3 (pn.nodup_iff.mpr nd) (fun k => by rw [pn.mem_iff, ← hm k])⟩
  have q := k1 b u e
  have hlt := Heap.lt_size q
  show (sortedHeap (s1.heap.push (seqObj "list" vs.toArray 0)) s1.heap.objs.size vs ((arrOf st').map (·.2))).get? b = some u
  rw [sortedHeap_old (Nat.ne_of_lt hlt) (by rw [size_push']; exact Nat.lt_succ_of_lt hlt)]
  exact Heap.get?_push_of_some _ q
end
end ZT


/-! Z2: how values, stores and heaps go together. -/
namespace Z
open PySem L2

/-- where the store's objects lie; what is being made and not told yet -/
structure Pl where
  l : List Addr
  hid : List Addr
def Pl.add (ρ : Pl) (p : Addr) : Pl := ⟨ρ.l ++ [p], ρ.hid⟩
/-- objects that a table of code objects is told by -/
def Cod (o : HO) : Prop := (∃ ps, o = .tbl ps) ∨ ∃ f, o = .ext f
def NoT (o : HO) : Prop := ∀ ps, o ≠ .tbl ps
theorem cod_lst {vs : List V} : ¬ Cod (.lst vs) := by rintro (⟨_, h⟩ | ⟨_, h⟩) <;> cases h
theorem cod_dK {vs : List (Key × V)} : ¬ Cod (.dK vs) := by rintro (⟨_, h⟩ | ⟨_, h⟩) <;> cases h
theorem not_lst {vs : List V} : NoT (.lst vs) := fun _ h => by cases h
theorem not_tup {vs : List V} : NoT (.tup vs) := fun _ h => by cases h
theorem not_frz {o : Obj} {u : HO} : NoT (.frz o u) := fun _ h => by cases h
theorem not_xd {fs : List (Str × V)} : NoT (.xd fs) := fun _ h => by cases h
/-- the defs' code objects, their tables, the names of the lambdas in them -/
def tabOf (K : PySem.W.Frag) (c : Addr) : Option Addr := match K.lookup c with
  | some (o : Obj) => (match o.data with
    | .fields (vs : Array Value) => (match (vs[11]? : Option Value) with
      | some (.ref P) => some P
      | _ => none)
    | _ => none)
  | none => none
def csK (K : PySem.W.Frag) : List (Addr × Addr × Str) := K.filterMap fun p => match p.2.data with
  | .func fd => (match fd.code with
    | .ref c => (tabOf K c).map fun P => (c, P, (fd.qualname ++ (".<locals>." : Str)) ++ ("<lambda>" : Str))
    | _ => none)
  | _ => none
def tbK (K : PySem.W.Frag) : List (Addr × Str) := (csK K).map (·.2)
/-- the tables where code objects of lambdas lie -/
def TbOk (K : PySem.W.Frag) (ρ : Pl) (H : Hp) : Prop := ∀ p ∈ tbK K, p.1 ∉ ρ.l ∧ p.1 ∉ ρ.hid ∧ LamX.TabS H p.1 p.2
theorem tabS_same {H H' : Hp} {P : Addr} {q : Str} (h : ∀ b o, H b = some o → Cod o → H' b = some o) (t : LamX.TabS H P q) : LamX.TabS H' P q := by
  obtain ⟨ps, h1, h2, h3⟩ := t
  refine ⟨ps, h _ _ h1 (.inl ⟨_, rfl⟩), h2, fun pos cv hc => ?_⟩
  obtain ⟨c, e1, e2⟩ := h3 pos cv hc
  exact ⟨c, e1, h _ _ e2 (.inr ⟨_, rfl⟩)⟩
theorem TbOk.same {K : PySem.W.Frag} {ρ ρ' : Pl} {H H' : Hp} (t : TbOk K ρ H) (h1 : ∀ p ∈ tbK K, p.1 ∉ ρ.l → p.1 ∉ ρ'.l) (h2 : ∀ p ∈ tbK K, p.1 ∉ ρ.hid → p.1 ∉ ρ'.hid) (h : ∀ b o, H b = some o → Cod o → H' b = some o) : TbOk K ρ' H' := fun p hp => by
  obtain ⟨a, b, c⟩ := t p hp
  exact ⟨h1 p hp a, h2 p hp b, tabS_same h c⟩
theorem TbOk.at {K : PySem.W.Frag} {ρ : Pl} {H : Hp} (t : TbOk K ρ H) {p : Addr × Str} (hp : p ∈ tbK K) : ∃ ps, H p.1 = some (.tbl ps) := by
  obtain ⟨_, _, ps, h, _⟩ := t p hp
  exact ⟨ps, h⟩
/-- the places of what may change -/
def Al (ρ : Pl) (M : Sto) (b : Addr) : Prop := b ∈ ρ.hid ∨ ∃ (i : Nat) (o : MO), ρ.l[i]? = some b ∧ M[i]? = some o ∧ o ≠ .dead
/-- a tuple made here: a plain object -/
def TupF (H : Hp) (a : Addr) (vs : List V) : Prop := ∃ o : Obj, H a = some (.frz o (.tup vs)) ∧ o.dict = none
mutual
inductive RD (K : PySem.W.Frag) (H : Hp) (al : Addr → Prop) (ρ : Pl) : D → V → Prop
  | non : RD K H al ρ .non .non
  | bl (b : Bool) : RD K H al ρ (.bl b) (.bl b)
  | int (i : Int) : RD K H al ρ (.int i) (.int i)
  | str (s : Str) : RD K H al ρ (.str s) (.str s)
  | tup {a : Addr} {xs : List D} {vs : List V} : TupF H a vs → ¬ al a → vs.length ≤ sizeLine → RDs K H al ρ xs vs → RD K H al ρ (.tup xs) (.ref a)
  | tupK {a : Addr} {xs : List D} {vs : List V} {o : Obj} {its : Array Value} {n : Nat} : K.lookup a = some o → o.cls = .type "tuple" ∧ o.dict = none → o.data = .seq its n → its.size ≤ sizeLine → Vals vs its.toList → vs.length ≤ sizeLine →
      RDs K H al ρ xs vs → RD K H al ρ (.tup xs) (.ref a)
  | lst {a : Addr} {xs : List D} {vs : List V} : H a = some (.lst vs) → ¬ al a → vs.length ≤ sizeLine → RDs K H al ρ xs vs → RD K H al ρ (.lst xs) (.ref a)
  | scr {a : Addr} {xs : List D} {vs : List V} : Rd H a (.lst vs) → ¬ al a → vs.length ≤ sizeLine → RDs K H al ρ xs vs → RD K H al ρ (.scr xs) (.ref a)
  | scrK {a : Addr} {xs : List D} {vs : List V} : (∃ (o : Obj) (its : Array Value) (n : Nat), K.lookup a = some o ∧ o.cls = .type "list" ∧ o.dict = none ∧ o.data = .seq its n ∧ its.size ≤ sizeLine ∧ Vals vs its.toList) → vs.length ≤ sizeLine →
      RDs K H al ρ xs vs → RD K H al ρ (.scr xs) (.ref a)
  | loc {n : Nat} {a : Addr} : ρ.l[n]? = some a → RD K H al ρ (.loc n) (.ref a)
  | pr {a : Addr} {xs : List D} {vs : List V} : H a = some (.tup vs) → ¬ al a → vs.length ≤ sizeLine → RDs K H al ρ xs vs → RD K H al ρ (.pr xs) (.ref a)
inductive RDs (K : PySem.W.Frag) (H : Hp) (al : Addr → Prop) (ρ : Pl) : List D → List V → Prop
  | nil : RDs K H al ρ [] []
  | cons {x : D} {xs : List D} {v : V} {vs : List V} : RD K H al ρ x v → RDs K H al ρ xs vs → RDs K H al ρ (x :: xs) (v :: vs)
end
/-- pairs of keys and values -/
inductive RKs (K : PySem.W.Frag) (H : Hp) (al : Addr → Prop) (ρ : Pl) : List (Key × D) → List (Key × V) → Prop
  | nil : RKs K H al ρ [] []
  | cons {k : Key} {x : D} {xs : List (Key × D)} {v : V} {vs : List (Key × V)} : RD K H al ρ x v → RKs K H al ρ xs vs → RKs K H al ρ ((k, x) :: xs) ((k, v) :: vs)
inductive RO (K : PySem.W.Frag) (H : Hp) (al : Addr → Prop) (ρ : Pl) (a : Addr) : MO → Prop
  | dead {o : HO} : H a = some o → NoT o → RO K H al ρ a .dead
  | lst {xs : List D} {vs : List V} : H a = some (.lst vs) → vs.length ≤ sizeLine → RDs K H al ρ xs vs → RO K H al ρ a (.lst xs)
  | dct {xs : List (Key × D)} {vs : List (Key × V)} : H a = some (.dK vs) → vs.length ≤ sizeLine → RKs K H al ρ xs vs → RO K H al ρ a (.dct xs)
structure Rep (K : PySem.W.Frag) (ρ : Pl) (M : Sto) (H : Hp) : Prop where
  len : ρ.l.length = M.length
  nd : ρ.l.Nodup
  obj : ∀ (i : Nat) (a : Addr) (o : MO), ρ.l[i]? = some a → M[i]? = some o → RO K H (Al ρ M) ρ a o
  hid : ∀ b ∈ ρ.hid, b ∉ ρ.l ∧ ∃ o, H b = some (.lst o)
  tab : TbOk K ρ H
structure Ext (ρ : Pl) (M : Sto) (H : Hp) (ρ' : Pl) (M' : Sto) (H' : Hp) : Prop where
  pre : ∃ t, ρ'.l = ρ.l ++ t
  hid : ρ'.hid = ρ.hid
  hk : ∀ b ∈ ρ.hid, H' b = H b
  keep : ∀ b o, H b = some o → NoT o → ¬ Al ρ M b → H' b = some o ∧ ¬ Al ρ' M' b
section
variable {K : PySem.W.Frag} {H H' H1 H2 : Hp} {al al' : Addr → Prop} {ρ ρ' ρ1 ρ2 : Pl} {M M' M1 M2 : Sto} {a b p : Addr}
theorem Ext.refl : Ext ρ M H ρ M H := ⟨⟨[], by simp⟩, rfl, fun _ _ => rfl, fun b o h _ n => ⟨h, n⟩⟩
theorem Ext.trans (x : Ext ρ M H ρ1 M1 H1) (y : Ext ρ1 M1 H1 ρ2 M2 H2) : Ext ρ M H ρ2 M2 H2 := by
  obtain ⟨t, ht⟩ := x.pre
  obtain ⟨u, hu⟩ := y.pre
  exact ⟨⟨t ++ u, by rw [hu, ht, List.append_assoc]⟩, y.hid.trans x.hid, fun b hb => (y.hk b (by rw [x.hid]; exact hb)).trans (x.hk b hb), fun b o h t n => let ⟨h1, n1⟩ := x.keep b o h t n; y.keep b o h1 t n1⟩
theorem Ext.at (x : Ext ρ M H ρ' M' H') {i : Nat} (h : ρ.l[i]? = some a) : ρ'.l[i]? = some a := by
  obtain ⟨t, ht⟩ := x.pre
  obtain ⟨h1, h2⟩ := List.getElem?_eq_some_iff.mp h
  rw [ht, List.getElem?_append_left h1]; exact h
/-- what values see of a step -/
structure Wk (ρ : Pl) (M : Sto) (H : Hp) (ρ' : Pl) (M' : Sto) (H' : Hp) : Prop where
  lo : ∀ (i : Nat) (a : Addr), ρ.l[i]? = some a → ρ'.l[i]? = some a
  keep : ∀ b o, H b = some o → NoT o → ¬ Al ρ M b → H' b = some o ∧ ¬ Al ρ' M' b
theorem Ext.wk (x : Ext ρ M H ρ' M' H') : Wk ρ M H ρ' M' H' := ⟨fun i a h => x.at h, x.keep⟩
theorem Wk.trans (x : Wk ρ M H ρ1 M1 H1) (y : Wk ρ1 M1 H1 ρ2 M2 H2) : Wk ρ M H ρ2 M2 H2 := ⟨fun i a h => y.lo i a (x.lo i a h), fun b o h t n => let ⟨h1, n1⟩ := x.keep b o h t n; y.keep b o h1 t n1⟩
theorem Wk.rd (x : Wk ρ M H ρ' M' H') {u : List V} (h : Rd H a (.lst u)) (n : ¬ Al ρ M a) : Rd H' a (.lst u) ∧ ¬ Al ρ' M' a := by
  rcases h with h | ⟨o, h⟩
  · obtain ⟨h1, n1⟩ := x.keep a _ h not_lst n; exact ⟨.inl h1, n1⟩
  · obtain ⟨h1, n1⟩ := x.keep a _ h not_frz n; exact ⟨.inr ⟨o, h1⟩, n1⟩
theorem Wk.tupF (x : Wk ρ M H ρ' M' H') {vs : List V} (h : TupF H a vs) (n : ¬ Al ρ M a) : TupF H' a vs ∧ ¬ Al ρ' M' a := by
  obtain ⟨o, h1, h2⟩ := h
  exact ⟨⟨o, (x.keep _ _ h1 not_frz n).1, h2⟩, (x.keep _ _ h1 not_frz n).2⟩
mutual
theorem RD.wk (x : Wk ρ M H ρ' M' H') : ∀ {d : D} {v : V}, RD K H (Al ρ M) ρ d v → RD K H' (Al ρ' M') ρ' d v
  | _, _, .non => .non
  | _, _, .bl b => .bl b
  | _, _, .int i => .int i
  | _, _, .str s => .str s
  | _, _, .tup h n z r => .tup (x.tupF h n).1 (x.tupF h n).2 z (RDs.wk x r)
  | _, _, .pr h n z r => .pr (x.keep _ _ h not_tup n).1 (x.keep _ _ h not_tup n).2 z (RDs.wk x r)
  | _, _, .tupK h1 h2 h3 h4 h5 z r => .tupK h1 h2 h3 h4 h5 z (RDs.wk x r)
  | _, _, .lst h n z r => .lst (x.keep _ _ h not_lst n).1 (x.keep _ _ h not_lst n).2 z (RDs.wk x r)
  | _, _, .scr h n z r => .scr (x.rd h n).1 (x.rd h n).2 z (RDs.wk x r)
  | _, _, .scrK h z r => .scrK h z (RDs.wk x r)
  | _, _, .loc h => .loc (x.lo _ _ h)
theorem RDs.wk (x : Wk ρ M H ρ' M' H') : ∀ {ds : List D} {vs : List V}, RDs K H (Al ρ M) ρ ds vs → RDs K H' (Al ρ' M') ρ' ds vs
  | _, _, .nil => .nil
  | _, _, .cons h r => .cons (RD.wk x h) (RDs.wk x r)
end
theorem RKs.wk (x : Wk ρ M H ρ' M' H') : ∀ {ds : List (Key × D)} {vs : List (Key × V)}, RKs K H (Al ρ M) ρ ds vs → RKs K H' (Al ρ' M') ρ' ds vs
  | _, _, .nil => .nil
  | _, _, .cons h r => .cons (h.wk x) (RKs.wk x r)
theorem RD.ext {d : D} {v : V} (x : Ext ρ M H ρ' M' H') (h : RD K H (Al ρ M) ρ d v) : RD K H' (Al ρ' M') ρ' d v := h.wk x.wk
theorem RDs.ext {d : List D} {v : List V} (x : Ext ρ M H ρ' M' H') (h : RDs K H (Al ρ M) ρ d v) : RDs K H' (Al ρ' M') ρ' d v := h.wk x.wk
theorem RKs.ext {d : List (Key × D)} {v : List (Key × V)} (x : Ext ρ M H ρ' M' H') (h : RKs K H (Al ρ M) ρ d v) : RKs K H' (Al ρ' M') ρ' d v := h.wk x.wk
theorem RDs.length : ∀ {ds : List D} {vs : List V}, RDs K H al ρ ds vs → ds.length = vs.length
  | _, _, .nil => rfl
  | _, _, .cons _ r => by rw [List.length_cons, List.length_cons, RDs.length r]
theorem RKs.length : ∀ {ds : List (Key × D)} {vs : List (Key × V)}, RKs K H al ρ ds vs → ds.length = vs.length
  | _, _, .nil => rfl
  | _, _, .cons _ r => by rw [List.length_cons, List.length_cons, RKs.length r]
theorem RDs.get : ∀ {ds : List D} {vs : List V} {i : Nat} {d : D}, RDs K H al ρ ds vs → ds[i]? = some d → ∃ v, vs[i]? = some v ∧ RD K H al ρ d v
  | _, _, _, _, .nil, e => by simp at e
  | _, _, 0, _, .cons h _, e => by simp at e; subst e; exact ⟨_, rfl, h⟩
  | _, _, i + 1, _, .cons _ r, e => by
    obtain ⟨v, h1, h2⟩ := RDs.get (i := i) r (by simpa using e)
    exact ⟨v, by simpa using h1, h2⟩
theorem RDs.eraseIdx : ∀ {ds : List D} {vs : List V} (i : Nat), RDs K H al ρ ds vs → RDs K H al ρ (ds.eraseIdx i) (vs.eraseIdx i)
  | _, _, _, .nil => .nil
  | _, _, 0, .cons _ r => r
  | _, _, i + 1, .cons h r => .cons h (RDs.eraseIdx i r)
theorem RDs.getV : ∀ {ds : List D} {vs : List V} {i : Nat} {v : V}, RDs K H al ρ ds vs → vs[i]? = some v → ∃ d, ds[i]? = some d ∧ RD K H al ρ d v
  | _, _, _, _, .nil, e => by simp at e
  | _, _, 0, _, .cons h _, e => by simp at e; subst e; exact ⟨_, rfl, h⟩
  | _, _, i + 1, _, .cons _ r, e => by
    obtain ⟨v, h1, h2⟩ := RDs.getV (i := i) r (by simpa using e)
    exact ⟨v, by simpa using h1, h2⟩
theorem RDs.append : ∀ {ds es : List D} {vs ws : List V}, RDs K H al ρ ds vs → RDs K H al ρ es ws → RDs K H al ρ (ds ++ es) (vs ++ ws)
  | _, _, _, _, .nil, s => s
  | _, _, _, _, .cons h r, s => .cons h (RDs.append r s)
theorem RDs.take : ∀ {ds : List D} {vs : List V} (n : Nat), RDs K H al ρ ds vs → RDs K H al ρ (ds.take n) (vs.take n)
  | _, _, 0, _ => by simp; exact .nil
  | _, _, _ + 1, .nil => .nil
  | _, _, n + 1, .cons h r => .cons h (RDs.take n r)
theorem RDs.drop : ∀ {ds : List D} {vs : List V} (n : Nat), RDs K H al ρ ds vs → RDs K H al ρ (ds.drop n) (vs.drop n)
  | _, _, 0, r => r
  | _, _, _ + 1, .nil => .nil
  | _, _, n + 1, .cons _ r => RDs.drop n r
theorem RDs.dropLast {ds : List D} {vs : List V} (r : RDs K H al ρ ds vs) : RDs K H al ρ ds.dropLast vs.dropLast := by
  rw [List.dropLast_eq_take, List.dropLast_eq_take, r.length]
  exact r.take _
theorem RDs.set : ∀ {ds : List D} {vs : List V} (i : Nat) {d : D} {v : V}, RDs K H al ρ ds vs → RD K H al ρ d v → RDs K H al ρ (ds.set i d) (vs.set i v)
  | _, _, _, _, _, .nil, _ => .nil
  | _, _, 0, _, _, .cons _ r, q => .cons q r
  | _, _, i + 1, _, _, .cons h r, q => .cons h (RDs.set i r q)
theorem RDs.rep {ds : List D} {vs : List V} (r : RDs K H al ρ ds vs) : ∀ k : Nat, RDs K H al ρ (List.replicate k ds).flatten (List.replicate k vs).flatten
  | 0 => .nil
  | k + 1 => by
    rw [List.replicate_succ, List.replicate_succ, List.flatten_cons, List.flatten_cons]
    exact r.append (RDs.rep r k)
theorem RDs.reverse : ∀ {ds : List D} {vs : List V}, RDs K H al ρ ds vs → RDs K H al ρ ds.reverse vs.reverse
  | _, _, .nil => .nil
  | _, _, .cons h r => by
    rw [List.reverse_cons, List.reverse_cons]
    exact (RDs.reverse r).append (.cons h .nil)
/-- what a number, a text, .. stands for -/
theorem RD.int_inv {i : Int} {v : V} (h : RD K H al ρ (.int i) v) : v = .int i := by cases h; rfl
theorem RD.bl_inv {i : Bool} {v : V} (h : RD K H al ρ (.bl i) v) : v = .bl i := by cases h; rfl
theorem RD.str_inv {i : Str} {v : V} (h : RD K H al ρ (.str i) v) : v = .str i := by cases h; rfl
theorem RD.non_inv {v : V} (h : RD K H al ρ .non v) : v = .non := by cases h; rfl
theorem RD.tup_inv {xs : List D} {v : V} (h : RD K H al ρ (.tup xs) v) : ∃ a vs, v = .ref a ∧ SqT K H a vs ∧ vs.length ≤ sizeLine ∧ RDs K H al ρ xs vs := by
  cases h with
  | tup h n z r =>
    obtain ⟨o, h, _⟩ := h
    exact ⟨_, _, rfl, .inl (.inr ⟨o, h⟩), z, r⟩
  | tupK h1 h2 h3 h4 h5 z r => exact ⟨_, _, rfl, .inr ⟨_, _, _, h1, h2.1, h3, h4, h5⟩, z, r⟩
/-- .. a plain object -/
def PlT (K : PySem.W.Frag) (H : Hp) (a : Addr) (vs : List V) : Prop := TupF H a vs ∨ ∃ (o : Obj) (its : Array Value) (n : Nat), K.lookup a = some o ∧ o.cls = .type "tuple" ∧ o.dict = none ∧ o.data = .seq its n ∧ its.size ≤ sizeLine ∧ Vals vs its.toList
theorem PlT.sq {vs : List V} (h : PlT K H a vs) : SqT K H a vs := by
  rcases h with ⟨o, h1, _⟩ | ⟨o, its, n, h1, h2, _, h3⟩
  · exact .inl (.inr ⟨o, h1⟩)
  · exact .inr ⟨o, its, n, h1, h2, h3⟩
theorem RD.tup_pl {xs : List D} {v : V} (h : RD K H al ρ (.tup xs) v) : ∃ a vs, v = .ref a ∧ PlT K H a vs ∧ vs.length ≤ sizeLine ∧ RDs K H al ρ xs vs := by
  cases h with
  | tup h n z r => exact ⟨_, _, rfl, .inl h, z, r⟩
  | tupK h1 h2 h3 h4 h5 z r => exact ⟨_, _, rfl, .inr ⟨_, _, _, h1, h2.1, h2.2, h3, h4, h5⟩, z, r⟩
theorem RD.pr_inv {xs : List D} {v : V} (h : RD K H al ρ (.pr xs) v) : ∃ a vs, v = .ref a ∧ SqT K H a vs ∧ vs.length ≤ sizeLine ∧ RDs K H al ρ xs vs := by
  cases h with
  | pr h n z r => exact ⟨_, _, rfl, .inl (.inl h), z, r⟩
theorem RD.lst_inv {xs : List D} {v : V} (h : RD K H al ρ (.lst xs) v) : ∃ a vs, v = .ref a ∧ H a = some (.lst vs) ∧ ¬ al a ∧ vs.length ≤ sizeLine ∧ RDs K H al ρ xs vs := by
  cases h with
  | lst h n z r => exact ⟨_, _, rfl, h, n, z, r⟩
theorem RD.scr_inv {xs : List D} {v : V} (h : RD K H al ρ (.scr xs) v) : ∃ a vs, v = .ref a ∧ SqL K H a vs ∧ vs.length ≤ sizeLine ∧ RDs K H al ρ xs vs := by
  cases h with
  | scr h n z r => exact ⟨_, _, rfl, .inl h, z, r⟩
  | scrK h z r => exact ⟨_, _, rfl, .inr h, z, r⟩
theorem RD.loc_inv {n : Nat} {v : V} (h : RD K H al ρ (.loc n) v) : ∃ a, v = .ref a ∧ ρ.l[n]? = some a := by
  cases h with
  | loc h => exact ⟨_, rfl, h⟩
/-- of a represented state -/
theorem RO.there {o : MO} (h : RO K H al ρ a o) : ∃ u, H a = some u := by
  cases h with
  | dead h _ => exact ⟨_, h⟩
  | lst h _ _ => exact ⟨_, h⟩
  | dct h _ _ => exact ⟨_, h⟩
theorem Rep.there (r : Rep K ρ M H) {i : Nat} (h : ρ.l[i]? = some a) : ∃ u, H a = some u := by
  obtain ⟨h1, _⟩ := List.getElem?_eq_some_iff.mp h
  have h2 : i < M.length := by rw [← r.len]; exact h1
  exact (r.obj i a M[i] h (List.getElem?_eq_getElem h2)).there
theorem Rep.off (r : Rep K ρ M H) (h : H p = none) : p ∉ ρ.l := fun hm => by
  obtain ⟨i, hi⟩ := List.getElem?_of_mem hm
  obtain ⟨u, hu⟩ := r.there hi
  rw [h] at hu; cases hu
theorem Rep.noal (r : Rep K ρ M H) (h : H p = none) : ¬ Al ρ M p := by
  rintro (h1 | ⟨i, o, h1, _⟩)
  · obtain ⟨_, o, h2⟩ := r.hid p h1
    rw [h] at h2; cases h2
  · exact r.off h (List.mem_of_getElem? h1)
theorem Rep.lst_at (r : Rep K ρ M H) {n : Nat} {xs : List D} (h : M[n]? = some (.lst xs)) (h2 : ρ.l[n]? = some a) : ∃ vs, H a = some (.lst vs) ∧ vs.length ≤ sizeLine ∧ RDs K H (Al ρ M) ρ xs vs := by
  cases r.obj n a _ h2 h with
  | lst h1 z h3 => exact ⟨_, h1, z, h3⟩
theorem Rep.dct_at (r : Rep K ρ M H) {n : Nat} {xs : List (Key × D)} (h : M[n]? = some (.dct xs)) (h2 : ρ.l[n]? = some a) : ∃ vs, H a = some (.dK vs) ∧ vs.length ≤ sizeLine ∧ RKs K H (Al ρ M) ρ xs vs := by
  cases r.obj n a _ h2 h with
  | dct h1 z h3 => exact ⟨_, h1, z, h3⟩
theorem RO.wk (x : Wk ρ M H ρ' M' H') {o : MO} (h : RO K H (Al ρ M) ρ a o) (k : H' a = H a) : RO K H' (Al ρ' M') ρ' a o := by
  cases h with
  | dead h n => exact .dead (k.trans h) n
  | lst h z r => exact .lst (k.trans h) z (r.wk x)
  | dct h z r => exact .dct (k.trans h) z (r.wk x)
theorem RO.ext (x : Ext ρ M H ρ' M' H') {o : MO} (h : RO K H (Al ρ M) ρ a o) (k : H' a = H a) : RO K H' (Al ρ' M') ρ' a o := h.wk x.wk k
/-- a new object that is a value -/
theorem Rep.val (r : Rep K ρ M H) {o : HO} (h : H p = none) : Rep K ρ M (upd H p o) ∧ Ext ρ M H ρ M (upd H p o) := by
  have hq : ∀ b ∈ ρ.hid, upd H p o b = H b := fun b hb => by
    obtain ⟨_, w, hw⟩ := r.hid b hb
    exact upd_ne (ne_of_none hw h)
  have x : Ext ρ M H ρ M (upd H p o) := ⟨⟨[], by simp⟩, rfl, hq, fun b u hb _ n => ⟨by rw [upd_ne (ne_of_none hb h)]; exact hb, n⟩⟩
  refine ⟨⟨r.len, r.nd, fun i a u h1 h2 => ?_, fun b hb => ⟨(r.hid b hb).1, by rw [hq b hb]; exact (r.hid b hb).2⟩, r.tab.same (fun _ _ h => h) (fun _ _ h => h) fun b u hb _ => by rw [upd_ne (ne_of_none hb h)]; exact hb⟩, x⟩
  obtain ⟨w, hw⟩ := r.there h1
  exact (r.obj i a u h1 h2).ext x (upd_ne (ne_of_none hw h))
/-- a new object that may change -/
theorem Al.push {u : MO} (hl : ρ.l.length = M.length) : Al (ρ.add p) (M ++ [u]) b ↔ (Al ρ M b ∨ (b = p ∧ u ≠ .dead)) := by
  constructor
  · rintro (h | ⟨i, o, h1, h2, h3⟩)
    · exact .inl (.inl h)
    have h1 : (ρ.l ++ [p])[i]? = some b := h1
    by_cases hi : i < ρ.l.length
    · rw [List.getElem?_append_left hi] at h1
      rw [List.getElem?_append_left (by omega)] at h2
      exact .inl (.inr ⟨i, o, h1, h2, h3⟩)
    · rw [List.getElem?_append_right (by omega)] at h1
      rw [List.getElem?_append_right (by omega)] at h2
      have hz : i - ρ.l.length = 0 := by
        obtain ⟨q, _⟩ := List.getElem?_eq_some_iff.mp h1
        simp at q; omega
      rw [hz] at h1
      rw [show i - M.length = 0 by omega] at h2
      simp at h1 h2
      exact .inr ⟨h1.symm, by rw [h2]; exact h3⟩
  · rintro ((h | ⟨i, o, h1, h2, h3⟩) | ⟨rfl, h3⟩)
    · exact .inl h
    · obtain ⟨q, _⟩ := List.getElem?_eq_some_iff.mp h1
      obtain ⟨q2, _⟩ := List.getElem?_eq_some_iff.mp h2
      exact .inr ⟨i, o, by show (ρ.l ++ [p])[i]? = _; rw [List.getElem?_append_left q]; exact h1, by rw [List.getElem?_append_left q2]; exact h2, h3⟩
    · exact .inr ⟨ρ.l.length, u, by show (ρ.l ++ [b])[ρ.l.length]? = _; simp, by rw [hl]; simp, h3⟩
theorem Rep.ext_new (r : Rep K ρ M H) {o : HO} {u : MO} (h : H p = none) : Ext ρ M H (ρ.add p) (M ++ [u]) (upd H p o) := by
  have hq : ∀ b ∈ ρ.hid, upd H p o b = H b := fun b hb => by
    obtain ⟨_, w, hw⟩ := r.hid b hb
    exact upd_ne (ne_of_none hw h)
  refine ⟨⟨[p], rfl⟩, rfl, hq, fun b w hb _ n => ⟨by rw [upd_ne (ne_of_none hb h)]; exact hb, fun z => ?_⟩⟩
  rcases (Al.push r.len).mp z with z | ⟨z, _⟩
  · exact n z
  · rw [z, h] at hb; cases hb
theorem Rep.new (r : Rep K ρ M H) {o : HO} {u : MO} (h : H p = none) (hu : RO K (upd H p o) (Al (ρ.add p) (M ++ [u])) (ρ.add p) p u) : Rep K (ρ.add p) (M ++ [u]) (upd H p o) := by
  have x : Ext ρ M H (ρ.add p) (M ++ [u]) (upd H p o) := r.ext_new h
  refine ⟨by show (ρ.l ++ [p]).length = _; simp [r.len], ?_, fun i a w h1 h2 => ?_, fun b hb => ⟨fun hm => ?_, by rw [x.hk b hb]; exact (r.hid b hb).2⟩, r.tab.same (fun q hq hn hm => ?_) (fun _ _ h => h) fun b u hb _ => by rw [upd_ne (ne_of_none hb h)]; exact hb⟩
  · show (ρ.l ++ [p]).Nodup
    rw [List.nodup_append]
    refine ⟨r.nd, by simp, fun y hy z hz => ?_⟩
    simp at hz
    subst hz
    exact fun e => r.off h (e ▸ hy)
  · have h1 : (ρ.l ++ [p])[i]? = some a := h1
    by_cases hi : i < ρ.l.length
    · rw [List.getElem?_append_left hi] at h1
      rw [List.getElem?_append_left (by have := r.len; omega)] at h2
      obtain ⟨q, hq⟩ := r.there h1
      exact (r.obj i a w h1 h2).ext x (upd_ne (ne_of_none hq h))
    · rw [List.getElem?_append_right (by omega)] at h1
      rw [List.getElem?_append_right (by have := r.len; omega)] at h2
      have hz : i - ρ.l.length = 0 := by
        obtain ⟨q, _⟩ := List.getElem?_eq_some_iff.mp h1
        simp at q; omega
      rw [hz] at h1
      rw [show i - M.length = 0 by have := r.len; omega] at h2
      simp at h1 h2
      subst h1 h2
      exact hu
  · have hm : b ∈ ρ.l ++ [p] := hm
    rcases List.mem_append.mp hm with hm | hm
    · exact (r.hid b hb).1 hm
    · simp at hm
      subst hm
      obtain ⟨_, o', ho⟩ := r.hid b hb
      rw [h] at ho; cases ho
  · have hm : q.1 ∈ ρ.l ++ [p] := hm
    rcases List.mem_append.mp hm with hm | hm
    · exact hn hm
    · simp at hm
      obtain ⟨ps, e⟩ := r.tab.at hq
      rw [hm, h] at e; cases e
theorem Rep.newL (r : Rep K ρ M H) {xs : List D} {vs : List V} (h : H p = none) (z : vs.length ≤ sizeLine) (q : RDs K H (Al ρ M) ρ xs vs) :
    Rep K (ρ.add p) (M ++ [.lst xs]) (upd H p (.lst vs)) ∧ Ext ρ M H (ρ.add p) (M ++ [.lst xs]) (upd H p (.lst vs)) ∧ (ρ.add p).l[M.length]? = some p := by
  have x : Ext ρ M H (ρ.add p) (M ++ [.lst xs]) (upd H p (.lst vs)) := r.ext_new h
  exact ⟨r.new h (.lst upd_same z (q.ext x)), x, by rw [← r.len]; show (ρ.l ++ [p])[ρ.l.length]? = _; simp⟩
theorem Rep.newD (r : Rep K ρ M H) {xs : List (Key × D)} {vs : List (Key × V)} (h : H p = none) (z : vs.length ≤ sizeLine) (q : RKs K H (Al ρ M) ρ xs vs) :
    Rep K (ρ.add p) (M ++ [.dct xs]) (upd H p (.dK vs)) ∧ Ext ρ M H (ρ.add p) (M ++ [.dct xs]) (upd H p (.dK vs)) ∧ (ρ.add p).l[M.length]? = some p := by
  have x : Ext ρ M H (ρ.add p) (M ++ [.dct xs]) (upd H p (.dK vs)) := r.ext_new h
  exact ⟨r.new h (.dct upd_same z (q.ext x)), x, by rw [← r.len]; show (ρ.l ++ [p])[ρ.l.length]? = _; simp⟩
/-- an object is changed -/
theorem Al.set {n : Nat} {o u : MO} (h : M[n]? = some o) (h1 : o ≠ .dead) (h2 : u ≠ .dead) : Al ρ (M.set n u) b ↔ Al ρ M b := by
  obtain ⟨hn, _⟩ := List.getElem?_eq_some_iff.mp h
  constructor
  · rintro (z | ⟨i, w, a1, a2, a3⟩)
    · exact .inl z
    by_cases hi : n = i
    · subst hi; exact .inr ⟨n, o, a1, h, h1⟩
    · rw [List.getElem?_set_ne hi] at a2; exact .inr ⟨i, w, a1, a2, a3⟩
  · rintro (z | ⟨i, w, a1, a2, a3⟩)
    · exact .inl z
    by_cases hi : n = i
    · subst hi; exact .inr ⟨n, u, a1, by simp [hn], h2⟩
    · exact .inr ⟨i, w, a1, by rw [List.getElem?_set_ne hi]; exact a2, a3⟩
theorem Rep.ext_put (r : Rep K ρ M H) {n : Nat} {o u : MO} {w : HO} (h : M[n]? = some o) (h1 : o ≠ .dead) (h2 : u ≠ .dead) (ha : ρ.l[n]? = some a) : Ext ρ M H ρ (M.set n u) (upd H a w) := by
  refine ⟨⟨[], by simp⟩, rfl, fun b hb => upd_ne fun e => ?_, fun b q hb _ nb => ⟨?_, fun z => nb ((Al.set h h1 h2).mp z)⟩⟩
  · subst e
    exact (r.hid b hb).1 (List.mem_of_getElem? ha)
  · rw [upd_ne]
    · exact hb
    · intro e; subst e; exact nb (.inr ⟨n, o, ha, h, h1⟩)
theorem Rep.put (r : Rep K ρ M H) {n : Nat} {o u : MO} {w : HO} (h : M[n]? = some o) (h1 : o ≠ .dead) (h2 : u ≠ .dead) (ha : ρ.l[n]? = some a) (hu : RO K (upd H a w) (Al ρ (M.set n u)) ρ a u) : Rep K ρ (M.set n u) (upd H a w) := by
  have x : Ext ρ M H ρ (M.set n u) (upd H a w) := r.ext_put h h1 h2 ha
  refine ⟨by simp [r.len], r.nd, fun i b q b1 b2 => ?_, fun b hb => ⟨(r.hid b hb).1, by rw [x.hk b hb]; exact (r.hid b hb).2⟩, r.tab.same (fun _ _ h => h) (fun _ _ h => h) fun b v hb hc => ?_⟩
  rotate_left
  · rw [upd_ne]
    · exact hb
    · intro e
      subst e
      have r0 := r.obj n b o ha h
      cases r0 with
      | dead _ _ => exact h1 rfl
      | lst g _ _ => rw [g] at hb; cases hb; exact cod_lst hc
      | dct g _ _ => rw [g] at hb; cases hb; exact cod_dK hc
  by_cases hi : n = i
  · subst hi
    rw [ha] at b1; cases b1
    obtain ⟨hn, _⟩ := List.getElem?_eq_some_iff.mp h
    rw [List.getElem?_set_self hn] at b2; cases b2
    exact hu
  · rw [List.getElem?_set_ne hi] at b2
    refine (r.obj i b q b1 b2).ext x (upd_ne fun e => hi ?_)
    subst e
    obtain ⟨l1, e1⟩ := List.getElem?_eq_some_iff.mp b1
    obtain ⟨l2, e2⟩ := List.getElem?_eq_some_iff.mp ha
    exact (List.getElem_inj r.nd).mp (e2.trans e1.symm)
theorem Rep.putL (r : Rep K ρ M H) {n : Nat} {xs ys : List D} {vs : List V} (h : M[n]? = some (.lst xs)) (ha : ρ.l[n]? = some a) (z : vs.length ≤ sizeLine) (q : RDs K H (Al ρ M) ρ ys vs) :
    Rep K ρ (M.set n (.lst ys)) (upd H a (.lst vs)) ∧ Ext ρ M H ρ (M.set n (.lst ys)) (upd H a (.lst vs)) := by
  have x : Ext ρ M H ρ (M.set n (.lst ys)) (upd H a (.lst vs)) := r.ext_put h (by simp) (by simp) ha
  exact ⟨r.put h (by simp) (by simp) ha (.lst upd_same z (q.ext x)), x⟩
theorem Rep.putD (r : Rep K ρ M H) {n : Nat} {xs ys : List (Key × D)} {vs : List (Key × V)} (h : M[n]? = some (.dct xs)) (ha : ρ.l[n]? = some a) (z : vs.length ≤ sizeLine) (q : RKs K H (Al ρ M) ρ ys vs) :
    Rep K ρ (M.set n (.dct ys)) (upd H a (.dK vs)) ∧ Ext ρ M H ρ (M.set n (.dct ys)) (upd H a (.dK vs)) := by
  have x : Ext ρ M H ρ (M.set n (.dct ys)) (upd H a (.dK vs)) := r.ext_put h (by simp) (by simp) ha
  exact ⟨r.put h (by simp) (by simp) ha (.dct upd_same z (q.ext x)), x⟩
/-- a list that changes no more -/
theorem Al.done {n : Nat} (h : Al ρ (M.set n .dead) b) : Al ρ M b := by
  rcases h with z | ⟨i, w, a1, a2, a3⟩
  · exact .inl z
  · by_cases hi : n = i
    · subst hi
      obtain ⟨hn, _⟩ := List.getElem?_eq_some_iff.mp a2
      rw [List.getElem?_set_self (by simpa using hn)] at a2
      cases a2
      exact absurd rfl a3
    · rw [List.getElem?_set_ne hi] at a2
      exact .inr ⟨i, w, a1, a2, a3⟩
theorem Rep.done (r : Rep K ρ M H) {n : Nat} {xs : List D} (h : M[n]? = some (.lst xs)) (ha : ρ.l[n]? = some a) :
    Rep K ρ (M.set n .dead) H ∧ Ext ρ M H ρ (M.set n .dead) H ∧ RD K H (Al ρ (M.set n .dead)) ρ (.lst xs) (.ref a) := by
  have x : Ext ρ M H ρ (M.set n .dead) H := ⟨⟨[], by simp⟩, rfl, fun _ _ => rfl, fun b o hb _ nb => ⟨hb, fun z => nb z.done⟩⟩
  obtain ⟨vs, h1, h2, h3⟩ := r.lst_at h ha
  refine ⟨⟨by simp [r.len], r.nd, fun i b q b1 b2 => ?_, r.hid, r.tab⟩, x, .lst h1 ?_ h2 (h3.ext x)⟩
  · by_cases hi : n = i
    · subst hi
      obtain ⟨hn, _⟩ := List.getElem?_eq_some_iff.mp b2
      rw [List.getElem?_set_self (by simpa using hn)] at b2
      cases b2
      rw [ha] at b1; cases b1
      exact .dead h1 not_lst
    · rw [List.getElem?_set_ne hi] at b2
      exact (r.obj i b q b1 b2).ext x rfl
  · rintro (z | ⟨i, w, a1, a2, a3⟩)
    · exact (r.hid a z).1 (List.mem_of_getElem? ha)
    · obtain ⟨l1, e1⟩ := List.getElem?_eq_some_iff.mp a1
      obtain ⟨l2, e2⟩ := List.getElem?_eq_some_iff.mp ha
      have hi : i = n := (List.getElem_inj r.nd).mp (e1.trans e2.symm)
      subst hi
      obtain ⟨hn, _⟩ := List.getElem?_eq_some_iff.mp a2
      rw [List.getElem?_set_self (by simpa using hn)] at a2
      cases a2
      exact a3 rfl
/-- a new tuple, a new value list -/
theorem Rep.newT (r : Rep K ρ M H) {xs : List D} {vs : List V} {o : Obj} (h : H p = none) (ho : o.dict = none) (z : vs.length ≤ sizeLine) (q : RDs K H (Al ρ M) ρ xs vs) :
    Rep K ρ M (upd H p (.frz o (.tup vs))) ∧ Ext ρ M H ρ M (upd H p (.frz o (.tup vs))) ∧ RD K (upd H p (.frz o (.tup vs))) (Al ρ M) ρ (.tup xs) (.ref p) := by
  obtain ⟨r1, x⟩ := r.val (o := .frz o (.tup vs)) h
  exact ⟨r1, x, .tup ⟨o, upd_same, ho⟩ (r.noal h) z (q.ext x)⟩
theorem Rep.newP (r : Rep K ρ M H) {xs : List D} {vs : List V} (h : H p = none) (z : vs.length ≤ sizeLine) (q : RDs K H (Al ρ M) ρ xs vs) :
    Rep K ρ M (upd H p (.tup vs)) ∧ Ext ρ M H ρ M (upd H p (.tup vs)) ∧ RD K (upd H p (.tup vs)) (Al ρ M) ρ (.pr xs) (.ref p) := by
  obtain ⟨r1, x⟩ := r.val (o := .tup vs) h
  exact ⟨r1, x, .pr upd_same (r.noal h) z (q.ext x)⟩
theorem Rep.newV (r : Rep K ρ M H) {xs : List D} {vs : List V} (h : H p = none) (z : vs.length ≤ sizeLine) (q : RDs K H (Al ρ M) ρ xs vs) :
    Rep K ρ M (upd H p (.lst vs)) ∧ Ext ρ M H ρ M (upd H p (.lst vs)) ∧ RD K (upd H p (.lst vs)) (Al ρ M) ρ (.lst xs) (.ref p) := by
  obtain ⟨r1, x⟩ := r.val (o := .lst vs) h
  exact ⟨r1, x, .lst upd_same (r.noal h) z (q.ext x)⟩

/-! ### slots -/
structure RE (K : PySem.W.Frag) (ρ : Pl) (M : Sto) (H : Hp) (env : En) (σ : L2.St) : Prop where
  len : σ.length = env.length
  at_ : ∀ (i : Nat) (d : D), env[i]? = some (some d) → ∃ v, σ[i]? = some (some v) ∧ RD K H (Al ρ M) ρ d v
variable {env : En} {σ : L2.St}
theorem RE.wk (x : Wk ρ M H ρ' M' H') (r : RE K ρ M H env σ) : RE K ρ' M' H' env σ := ⟨r.len, fun i d h => let ⟨v, h1, h2⟩ := r.at_ i d h; ⟨v, h1, h2.wk x⟩⟩
theorem RE.ext (x : Ext ρ M H ρ' M' H') (r : RE K ρ M H env σ) : RE K ρ' M' H' env σ := ⟨r.len, fun i d h => let ⟨v, h1, h2⟩ := r.at_ i d h; ⟨v, h1, h2.ext x⟩⟩
theorem RE.set (r : RE K ρ M H env σ) (i : Nat) {d : D} {v : V} (q : RD K H (Al ρ M) ρ d v) : RE K ρ M H (env.set i (some d)) (σ.set i (some v)) := by
  refine ⟨by simp [r.len], fun j e h => ?_⟩
  by_cases hj : i = j
  · subst hj
    obtain ⟨l, _⟩ := List.getElem?_eq_some_iff.mp h
    simp at l
    rw [List.getElem?_set_self l] at h
    cases h
    exact ⟨v, by rw [List.getElem?_set_self (by rw [r.len]; exact l)], q⟩
  · rw [List.getElem?_set_ne hj] at h
    obtain ⟨w, h1, h2⟩ := r.at_ j e h
    exact ⟨w, by rw [List.getElem?_set_ne hj]; exact h1, h2⟩
theorem RE.wipe (r : RE K ρ M H env σ) : ∀ vs : List Nat, RE K ρ M H (wipeE env vs) (wipe σ vs)
  | [] => r
  | v :: vs => by
    have ih := RE.wipe r vs
    refine ⟨by show (List.set _ _ _).length = (List.set _ _ _).length; simp [ih.len], fun j e h => ?_⟩
    have h : (List.set (wipeE env vs) v none)[j]? = some (some e) := h
    show ∃ w, (List.set (L2.wipe σ vs) v none)[j]? = some (some w) ∧ _
    by_cases hj : v = j
    · subst hj
      obtain ⟨l, _⟩ := List.getElem?_eq_some_iff.mp h
      simp at l
      rw [List.getElem?_set_self l] at h
      cases h
    · rw [List.getElem?_set_ne hj] at h
      obtain ⟨w, h1, h2⟩ := ih.at_ j e h
      exact ⟨w, by rw [List.getElem?_set_ne hj]; exact h1, h2⟩
end

/-! ### readings by what is reckoned -/
/-- an exception: class, what it keeps -/
def RX (K : PySem.W.Frag) (ca : String → Addr) (H : Hp) (al : Addr → Prop) (ρ : Pl) (c : String) (p : Option D) (cv : Value) (dd : Option Addr) : Prop :=
  cv = .ref (ca c) ∧ match p with
    | none => True
    | some d => ∃ a v, dd = some a ∧ ¬ al a ∧ H a = some (.xd [(("at" : Str), v)]) ∧ RD K H al ρ d v
/-- relations of what is told -/
abbrev Rl (α β : Type) := Hp → (Addr → Prop) → Pl → α → β → Prop
def rId {α : Type} : Rl α α := fun _ _ _ a b => a = b
structure Rl.Ok {α β : Type} (R : Rl α β) : Prop where
  ext : ∀ {ρ M H ρ' M' H' a b}, Ext ρ M H ρ' M' H' → R H (Al ρ M) ρ a b → R H' (Al ρ' M') ρ' a b
def Fi {α β : Type} (K : PySem.W.Frag) (ca : String → Addr) (R : Rl α β) (W : WX) (σ : L2.St) (ρ : Pl) (M : Sto) (H : Hp) (r : Res α) (Q : β → Hp → Prop) : Prop := match r with
  | .ok a M' => ∀ ρ' H' b, Rep K ρ' M' H' → Ext ρ M H ρ' M' H' → R H' (Al ρ' M') ρ' a b → Q b H'
  | .exc c p M' => ∀ ρ' H' cv dd, Rep K ρ' M' H' → Ext ρ M H ρ' M' H' → RX K ca H' (Al ρ' M') ρ' c p cv dd → W cv dd σ H'
  | .fail => False
section
variable {α β γ δ : Type} {K : PySem.W.Frag} {ca : String → Addr} {R : Rl α β} {R1 : Rl γ δ} {W : WX} {σ : L2.St} {ρ ρ1 : Pl} {M M1 : Sto} {H H1 : Hp} {Q : β → Hp → Prop}
theorem Fi.go {r : Res α} (x : Ext ρ M H ρ1 M1 H1) (h : Fi K ca R W σ ρ M H r Q) : Fi K ca R W σ ρ1 M1 H1 r Q := by
  cases r with
  | ok a M' => exact fun ρ' H' b r1 x1 q => h ρ' H' b r1 (x.trans x1) q
  | exc c p M' => exact fun ρ' H' cv dd r1 x1 q => h ρ' H' cv dd r1 (x.trans x1) q
  | fail => exact h
theorem Fi.bind {r : Res γ} {f : γ → Sto → Res α} (h : Fi K ca R W σ ρ M H (r.bind f) Q) :
    Fi K ca R1 W σ ρ M H r fun b H1 => ∃ ρ1 M1 a, Rep K ρ1 M1 H1 ∧ Ext ρ M H ρ1 M1 H1 ∧ R1 H1 (Al ρ1 M1) ρ1 a b ∧ Fi K ca R W σ ρ1 M1 H1 (f a M1) Q := by
  cases r with
  | ok a M' => exact fun ρ' H' b r1 x1 q => ⟨ρ', M', a, r1, x1, q, Fi.go x1 h⟩
  | exc c p M' => exact fun ρ' H' cv dd r1 x1 q => h ρ' H' cv dd r1 x1 q
  | fail => exact h
theorem Fi.imp {r : Res α} {Q' : β → Hp → Prop} (h : Fi K ca R W σ ρ M H r Q) (i : ∀ b H, Q b H → Q' b H) : Fi K ca R W σ ρ M H r Q' := by
  cases r with
  | ok a M' => exact fun ρ' H' b r1 x1 q => i _ _ (h ρ' H' b r1 x1 q)
  | exc c p M' => exact h
  | fail => exact h
theorem Fi.ofO {o : Option γ} {f : γ → Sto → Res α} (h : Fi K ca R W σ ρ M H ((ofO o M).bind f) Q) : ∃ a, o = some a ∧ Fi K ca R W σ ρ M H (f a M) Q := by
  cases o with
  | none => exact absurd h id
  | some a => exact ⟨a, rfl, h⟩
theorem Fi.ok {a : α} {b : β} (rp : Rep K ρ M H) (q : R H (Al ρ M) ρ a b) (h : Fi K ca R W σ ρ M H (.ok a M) Q) : Q b H := h ρ H b rp Ext.refl q
end
/-- the reading of a part by its meaning -/
def rd {α β : Type} (K : PySem.W.Frag) (ca : String → Addr) (R : Rl α β) (W : WX) (m : En → Sto → Res α) : L2.St → Hp → (β → Hp → Prop) → Prop :=
  fun σ H Q => ∃ ρ env M, Rep K ρ M H ∧ RE K ρ M H env σ ∧ Fi K ca R W σ ρ M H (m env M) Q
end Z


/-! Z3: operations: what is reckoned is what the machine does. -/
namespace Z
open PySem L2 PySem.Spec PyProof.Rows

theorem sz_le {n : Nat} (h : n ≤ 1000000) : n ≤ sizeLine := Nat.le_trans h (by rw [sizeLine_eq]; decide)
theorem sz_of {n : Nat} (h : fitLen n = true) : n ≤ sizeLine := sz_le (of_decide_eq_true h)
theorem sz_lt {n : Nat} (h : fitLen n = true) : n < sizeLine := Nat.lt_of_le_of_lt (of_decide_eq_true h) (by rw [sizeLine_eq]; decide)
/-- a rule under a wish that says more -/
theorem OpR.imp {X : Cx} {f : Value → Value → Sem Value} {r r' : R2} (h : OpR X f r) (i : ∀ x y H Q, r' x y H Q → r x y H Q) : OpR X f r' :=
  fun pins s σ H x y v u Q I rx ry q => h pins s σ H x y v u Q I rx ry (i _ _ _ _ q)
theorem pe_imp {X : Cx} {e : Expr} {t u : TE} (h : PE X e t) (i : ∀ σ H Q, u σ H Q → t σ H Q) : PE X e u := ⟨fun pins s σ H Q I q => h.run pins s σ H Q I (i _ _ _ q)⟩
theorem pt_imp {X : Cx} {e : Expr} {t u : TT} (h : PT X e t) (i : ∀ σ H Q, u σ H Q → t σ H Q) : PT X e u := ⟨fun pins s σ H Q I q => h.run pins s σ H Q I (i _ _ _ q)⟩
theorem pa_imp {X : Cx} {e : List Expr} {t u : TA} (h : PA X e t) (i : ∀ σ H Q, u σ H Q → t σ H Q) : PA X e u := ⟨fun p pins s σ H Q I q => h.run p pins s σ H Q I (i _ _ _ q)⟩
theorem ps_imp {X : Cx} {st : Stmt} {t u : TS} (h : PS X st t) (i : ∀ D σ H, u D σ H → t D σ H) : PS X st u := ⟨fun pins s σ H D I q => h.run pins s σ H D I (i _ _ _ q)⟩

/-! ### + - * // % ** -/
/-- t + u of tuples; the new one is known as the plain object that it is -/
def rCatF (K : PySem.W.Frag) : R2 := fun x y H Q => ∃ a b xs ys, (x = .ref a ∧ y = .ref b) ∧ (SqT K H a xs ∧ SqT K H b ys) ∧ xs.length + ys.length ≤ sizeLine ∧
  (xs = [] → Q y H) ∧ (xs ≠ [] → ys = [] → Q x H) ∧ (xs ≠ [] → ys ≠ [] → ∀ (p : Addr) (o : Obj), o.dict = none → H p = none → Q (.ref p) (upd H p (.frz o (.tup (xs ++ ys)))))
theorem op_catF {X : Cx} : OpR X (binaryOp .Add) (rCatF X.K) := by
  rintro pins s σ H x y v u Q I rx ry ⟨a, b, xs, ys, ⟨rfl, rfl⟩, ⟨ha, hb⟩, hz, q0, q1, q2⟩
  cases rx; cases ry
  obtain ⟨l1, r1, p1, _⟩ := I.tuple ha
  obtain ⟨l2, r2, p2, _⟩ := I.tuple hb
  by_cases hx : xs = []
  · subst hx; cases r1; exact cat_tup0 p1 p2 ⟨.ref b, H, I, rfl, q0 rfl⟩
  · refine HT.cat_tup p1 p2 (fun z => hx (r1.nil_iff.mp z)) (fun z => ⟨.ref a, H, I, rfl, q1 hx (r2.nil_iff.mp z)⟩) (fun z => ?_) (by rw [← r1.length, ← r2.length]; exact hz)
    refine ⟨.ref s.heap.objs.size, upd H s.heap.objs.size (.frz { cls := .type "tuple", data := .seq (l1 ++ l2).toArray } (.tup (xs ++ ys))), ?_, rfl, q2 hx (fun w => z (r2.nil_iff.mpr w)) _ _ rfl (I.hok.fresh (Nat.le_refl _))⟩
    refine I.laid (t' := s.toks) (fun b u e => Heap.get?_push_of_some _ e) (Nat.le_refl _) ⟨Heap.get?_push_size _ rfl, ?_, _, r1.append r2, IsTup.new _ _⟩
    rw [List.length_append]; exact hz
/-- a short text so often -/
theorem op_mulS {X : Cx} : OpR X (binaryOp .Mult) (fun x y H Q => ∃ (z : Str) (j : Int), x = .str z ∧ y = .int j ∧ (0 ≤ j ∧ j ≤ 1000 ∧ z.length ≤ 1000) ∧ Q (.str (Txt.mul z j)) H) := by
  intro pins s σ H x y v u Q I rx ry h
  obtain ⟨z, j, rfl, rfl, ⟨h1, h2, h3⟩, q⟩ := h
  obtain ⟨t, rfl⟩ := rx
  obtain ⟨t', rfl⟩ := ry
  refine SB.mul ⟨?_, fun h4 _ h5 => ?_, fun h4 _ => ?_⟩ fun t'' k => ⟨.str _, H, I.tok _, ⟨_, rfl⟩, q⟩
  · rw [decide_eq_false (by omega), decide_eq_false (by omega)]; rfl
  · have h6 : (1000 : Int) ≤ (2 ^ 63 - 1) / j := (Int.le_ediv_iff_mul_le (by omega)).mpr (by omega)
    omega
  · have h6 : z.length * j.toNat ≤ 1000 * 1000 := Nat.mul_le_mul h3 (by omega)
    unfold Builtin.Str.tooLong
    rw [decide_eq_false]
    have := sizeLine_eq
    omega
/-- t * 1 is t -/
theorem tuple_mul1 (l : Addr) (items : Array Value) (n : Nat) (dd : Option Addr) (sl : Array (Option Value)) (u : Tok) :
    Meets (Builtin.«tuple.__mul__» ⟨[.ref l, .int 1 u], []⟩) (fun _ R s => s.heap.get? l = some { cls := .type "tuple", dict := dd, data := .seq items n, slots := sl } ∧ R (.ok (.ret (Value.ref l))) s) :=
  .of_wp fun prog w A R s h => by
    obtain ⟨hp, g, d, tk, os⟩ := s
    obtain ⟨hl, h⟩ := h
    have f1 := AutoSeq1.idx_int
    have c0 : (decide ((1 : Int) < -(2 ^ 63)) || decide ((1 : Int) ≥ 2 ^ 63)) = false := by decide
    have c1 : (items.isEmpty || (1 : Int) == 1) = true := by simp
    wp_walk using wpAny_loadPart' hl
    repeat (first
      | (refine wpAny_ite_false (decide_eq_false (by rw [c0]; exact Bool.false_ne_true)) ?_; wp_walk using wpAny_loadPart' hl)
      | (refine wpAny_ite_true (decide_eq_true c1) ?_; wp_walk using wpAny_loadPart' hl))
    exact ⟨_, rfl, h⟩
/-- t * k, t not empty, k 1 or more -/
def rRepF (K : PySem.W.Frag) : R2 := fun x y H Q => ∃ l k xs, (x = .ref l ∧ y = .int k) ∧ SqT K H l xs ∧ (xs ≠ [] ∧ 1 ≤ k ∧ xs.length * k.toNat ≤ 1000000) ∧ (k = 1 → Q x H) ∧ (k ≠ 1 → ∀ (p : Addr) (o : Obj), o.dict = none → H p = none → Q (.ref p) (upd H p (.frz o (.tup (List.replicate k.toNat xs).flatten))))
theorem op_repF {X : Cx} : OpR X (binaryOp .Mult) (rRepF X.K) := by
  rintro pins s σ H x y v u Q I rx ry ⟨l, k, xs, ⟨rfl, rfl⟩, hT, ⟨hne, h1, hz⟩, q1, q2⟩
  cases rx
  obtain ⟨t, rfl⟩ := ry
  obtain ⟨its, r, ⟨⟨cls, dd, data, sl⟩, ho, hc, n, hd⟩, hs⟩ := I.tuple hT
  simp only at hc hd
  subst hc hd
  have hle := r.length
  have hpos : 0 < xs.length := List.length_pos_iff.mpr hne
  have hk : k.toNat ≤ 1000000 := Nat.le_trans (Nat.le_mul_of_pos_left _ hpos) hz
  have hi : its.toArray.isEmpty = false := by
    cases its with
    | nil => rw [hle] at hpos; exact absurd hpos (Nat.lt_irrefl 0)
    | cons a b => rfl
  have hsz0 : its.toArray.size = xs.length := by rw [List.size_toArray, hle]
  have hm : ((its.toArray.size : Nat) : Int) * k ≤ 1000000 := by
    rw [hsz0]
    have e : ((k.toNat : Nat) : Int) = k := Int.toNat_of_nonneg (by omega)
    rw [← e, ← Int.natCast_mul]
    exact Int.ofNat_le.mpr hz
  have flen : (List.replicate k.toNat its).flatten.length ≤ sizeLine := by
    rw [PyProof.Rows.lm_len_rep_flat, ← hle, Nat.mul_comm]
    exact sz_le hz
  have c0 : (decide (k < -(2 ^ 63)) || decide (k ≥ 2 ^ 63)) = false := by
    rw [decide_eq_false (by omega), decide_eq_false (by omega)]; rfl
  have c2 : (decide (k ≤ 0) || its.toArray.isEmpty) = false := by
    rw [hi, Bool.or_false]
    exact decide_eq_false (by omega)
  have c4 : Builtin.Tuple.tupleTooMany (((its.toArray.size : Nat) : Int) * k) = false := by
    unfold Builtin.Tuple.tupleTooMany
    rw [sizeLine_eq]
    exact decide_eq_false (by omega)
  refine wpAny_binaryOp_repeat_ref (T := "tuple") (U := "int") (by decide) ⟨_, ho, rfl⟩ (fun s' => typeIs_int s' k t) noFill_tuple_mul F.fills_int_mul F.slot_int_rmul repeat_tuple F.slot_int_index.lookup
    (call_meets F.slot_int_rmul (typeIs_int s k t) F.entry_int_rmul (F.args_int_rmul_2 _ _) (int_rmul_tuple k t l its.toArray n dd sl) ⟨ho, rfl, ⟨_, ho, rfl⟩, ?_⟩)
  by_cases hk1 : k = 1
  · subst hk1
    exact call_meets F.slot_tuple_mul ⟨_, ho, rfl⟩ F.entry_tuple_mul (F.args_tuple_mul_2 _ _) (tuple_mul1 l its.toArray n dd sl t) ⟨ho, .ref l, H, I, rfl, q1 rfl⟩
  · have c1 : (its.toArray.isEmpty || k == 1) = false := by
      rw [hi, Bool.false_or]
      exact beq_eq_false_iff_ne.mpr hk1
    refine call_meets F.slot_tuple_mul ⟨_, ho, rfl⟩ F.entry_tuple_mul (F.args_tuple_mul_2 _ _) (tuple_mulW l its.toArray n dd sl k t c0 c1 c2 (by omega) c4 (by rw [size_rep, List.size_toArray]; exact flen)) ⟨ho, ?_⟩
    rw [size_rep]
    refine ⟨.ref s.heap.objs.size, upd H s.heap.objs.size (.frz { cls := .type "tuple", data := .seq (List.replicate k.toNat its).flatten.toArray } (.tup (List.replicate k.toNat xs).flatten)), ?_, rfl, q2 hk1 _ _ rfl (I.hok.fresh (Nat.le_refl _))⟩
    refine I.laid (t' := s.toks) (fun b u e => Heap.get?_push_of_some _ e) (Nat.le_refl _) ⟨Heap.get?_push_size _ rfl, ?_, _, r.rep k.toNat, IsTup.new _ _⟩
    rw [PyProof.Rows.lm_len_rep_flat, Nat.mul_comm]
    exact sz_le hz
abbrev rDD (K : PySem.W.Frag) : Rl D V := fun H al ρ d v => RD K H al ρ d v
abbrev rDs (K : PySem.W.Frag) : Rl (List D) (List V) := fun H al ρ d v => RDs K H al ρ d v
def bopOf : Bop → Operator
  | .add => .Add | .sub => .Sub | .mul => .Mult | .fdiv => .FloorDiv | .mod => .Mod | .pow => .Pow
def rAddZ (K : PySem.W.Frag) : R2 := fun x y H Q => (∃ i j, x = .int i ∧ y = .int j ∧ Q (.int (i + j)) H) ∨ (∃ i j, x = .str i ∧ y = .str j ∧ i.length + j.length ≤ sizeLine ∧ Q (.str (i ++ j)) H) ∨ rCat x y H Q ∨ rCatF K x y H Q
def rMulZ (K : PySem.W.Frag) : R2 := fun x y H Q => (∃ i j, x = .int i ∧ y = .int j ∧ CMulW i j ∧ Q (.int (i * j)) H) ∨ (∃ (z : Str) (j : Int), x = .str z ∧ y = .int j ∧ (0 ≤ j ∧ j ≤ 1000 ∧ z.length ≤ 1000) ∧ Q (.str (Txt.mul z j)) H) ∨ rRep x y H Q ∨ rRepF K x y H Q
def rBinZ (K : PySem.W.Frag) : Bop → R2
  | .add => rAddZ K
  | .sub => rI0 fun i j => .int (i - j)
  | .mul => rMulZ K
  | .fdiv => rI CDivW fun i j => .int (i / j)
  | .mod => rI (fun _ j => 0 < j) fun i j => .int (i % j)
  | .pow => rI CPow fun i j => .int (i ^ j.toNat)
theorem op_binZ {X : Cx} : ∀ op : Bop, OpR X (binaryOp (bopOf op)) (rBinZ X.K op)
  | .add => OpR.or op_add (OpR.or op_add_str (OpR.or op_cat op_catF))
  | .sub => op_sub
  | .mul => OpR.or op_mulW (OpR.or op_mulS (OpR.or op_rep op_repF))
  | .fdiv => op_fdivW
  | .mod => op_mod
  | .pow => op_pow
section
variable {K : PySem.W.Frag} {ca : String → Addr} {W : WX} {σ : L2.St} {ρ : Pl} {M : Sto} {H : Hp} {Q : VK} {x y : V} {dx dy : D}
theorem cat_nil_l {α : Type} (ys : List α) : [] ++ ys = ys := rfl
theorem Fi.ite {α β : Type} {R : Rl α β} {Q : β → Hp → Prop} {c : Bool} {r : Res α} (f : Fi K ca R W σ ρ M H (if c = true then r else .fail) Q) : c = true ∧ Fi K ca R W σ ρ M H r Q := by
  cases c with
  | true => exact ⟨rfl, f⟩
  | false => exact absurd f id
theorem binD_rd {op : Bop} (rp : Rep K ρ M H) (qx : RD K H (Al ρ M) ρ dx x) (qy : RD K H (Al ρ M) ρ dy y) (f : Fi K ca (rDD K) W σ ρ M H (binD op dx dy M) Q) : rBinZ K op x y H Q := by
  unfold binD at f
  split at f
  · rw [qx.int_inv, qy.int_inv]
    exact .inl ⟨_, _, rfl, rfl, f.ok rp (.int _)⟩
  · rw [qx.int_inv, qy.int_inv]
    exact ⟨_, _, rfl, rfl, f.ok rp (.int _)⟩
  · rw [qx.int_inv, qy.int_inv]
    obtain ⟨c, f⟩ := f.ite
    have c := of_decide_eq_true c
    exact .inl ⟨_, _, rfl, rfl, c, f.ok rp (.int _)⟩
  · rw [qx.int_inv, qy.int_inv]
    obtain ⟨c, f⟩ := f.ite
    have c := of_decide_eq_true c
    exact ⟨_, _, rfl, rfl, ⟨c.1, by have := c.2; omega⟩, f.ok rp (.int _)⟩
  · rw [qx.int_inv, qy.int_inv]
    obtain ⟨c, f⟩ := f.ite
    have c := of_decide_eq_true c
    exact ⟨_, _, rfl, rfl, c, f.ok rp (.int _)⟩
  · rw [qx.int_inv, qy.int_inv]
    obtain ⟨c, f⟩ := f.ite
    have c := of_decide_eq_true c
    exact ⟨_, _, rfl, rfl, c, f.ok rp (.int _)⟩
  · rw [qx.str_inv, qy.str_inv]
    obtain ⟨c, f⟩ := f.ite
    exact .inr (.inl ⟨_, _, rfl, rfl, sz_of c, f.ok rp (.str _)⟩)
  · rw [qx.str_inv, qy.int_inv]
    obtain ⟨c, f⟩ := f.ite
    exact .inr (.inl ⟨_, _, rfl, rfl, of_decide_eq_true c, f.ok rp (.str _)⟩)
  · obtain ⟨c, f⟩ := f.ite
    obtain ⟨a, vs, rfl, ha, na, za, ra⟩ := qx.lst_inv
    obtain ⟨b, ws, rfl, hb, nb, zb, rb⟩ := qy.lst_inv
    have c := sz_of c
    rw [ra.length, rb.length] at c
    refine .inr (.inr (.inl ⟨a, b, vs, ws, rfl, rfl, ha, hb, c, fun p hp => ?_⟩))
    obtain ⟨r1, x1, q1⟩ := rp.newV hp (by rw [List.length_append]; exact c) (ra.append rb)
    exact (f.go x1).ok r1 q1
  · obtain ⟨c, f⟩ := f.ite
    have c := of_decide_eq_true c
    obtain ⟨a, vs, rfl, ha, na, za, ra⟩ := qx.lst_inv
    rw [qy.int_inv]
    rw [ra.length] at c
    have h6 : vs.length * (Int.toNat _) ≤ 1000 * 1000 := Nat.mul_le_mul c.2.2 (by have := c.1; have := c.2.1; exact Int.toNat_le.mpr (by omega))
    have h7 := sz_le h6
    refine .inr (.inr (.inl ⟨a, _, vs, rfl, rfl, ha, by omega, by omega, h7, fun p hp => ?_⟩))
    obtain ⟨r1, x1, q1⟩ := rp.newV hp (by rw [List.length_flatten, List.map_replicate, List.sum_replicate_nat, Nat.mul_comm]; exact h7) (ra.rep _)
    exact (f.go x1).ok r1 q1
  · obtain ⟨c, f⟩ := f.ite
    have c := of_decide_eq_true c
    obtain ⟨a, vs, rfl, ha, za, ra⟩ := qx.tup_inv
    rw [qy.int_inv]
    rw [ra.length] at c
    refine .inr (.inr (.inr ⟨a, _, vs, ⟨rfl, rfl⟩, ha, ⟨fun e => ?_, c.2.1, c.2.2⟩, fun e => ?_, fun _ p o ho hp => ?_⟩))
    · rw [e] at c
      exact absurd c.1 (Nat.lt_irrefl 0)
    · subst e
      rw [show (List.replicate (Int.toNat 1) _).flatten = _ from List.append_nil _] at f
      exact f.ok rp qx
    · obtain ⟨r1, x1, q1⟩ := rp.newT hp ho (by rw [List.length_flatten, List.map_replicate, List.sum_replicate_nat, Nat.mul_comm]; exact sz_le c.2.2) (ra.rep _)
      exact (f.go x1).ok r1 q1
  · obtain ⟨c, f⟩ := f.ite
    obtain ⟨a, vs, rfl, ha, za, ra⟩ := qx.tup_inv
    obtain ⟨b, ws, rfl, hb, zb, rb⟩ := qy.tup_inv
    have c := sz_of c
    rw [ra.length, rb.length] at c
    refine .inr (.inr (.inr ⟨a, b, vs, ws, ⟨rfl, rfl⟩, ⟨ha, hb⟩, c, fun e => ?_, fun _ e => ?_, fun _ _ p o ho hp => ?_⟩))
    · subst e
      cases ra
      exact f.ok rp qy
    · subst e
      cases rb
      rw [List.append_nil] at f
      exact f.ok rp qx
    · obtain ⟨r1, x1, q1⟩ := rp.newT hp ho (by rw [List.length_append]; exact c) (ra.append rb)
      exact (f.go x1).ok r1 q1
  · exact absurd f id
end
/-! ### == and != -/
mutual
def D.py : D → PyData
  | .bl b => .bool b
  | .int i => .int i
  | .str s => .str s
  | .tup xs => .tuple (D.pys xs)
  | .lst xs => .list (D.pys xs)
  | _ => .none
def D.pys : List D → List PyData
  | [] => []
  | x :: xs => x.py :: D.pys xs
end
mutual
theorem fit_lay : ∀ {n : Nat} {d : D}, D.fit n d = true → d.py.canLay0 = true
  | _, .non, _ => rfl
  | _, .bl _, _ => rfl
  | _, .int _, _ => rfl
  | n, .str s, h => by unfold D.fit at h; exact h
  | 0, .tup xs, h => by simp [D.fit] at h
  | 0, .lst xs, h => by simp [D.fit] at h
  | n + 1, .tup xs, h => fits_lay (n := n) (by unfold D.fit at h; exact h)
  | n + 1, .lst xs, h => fits_lay (n := n) (by unfold D.fit at h; exact h)
  | n, .scr xs, h => by unfold D.fit at h; cases n <;> cases h
  | n, .loc k, h => by unfold D.fit at h; cases n <;> cases h
  | n, .pr k, h => by unfold D.fit at h; cases n <;> cases h
theorem fits_lay : ∀ {n : Nat} {ds : List D}, D.fits n ds = true → PyData.canLayAll0 (D.pys ds) = true
  | _, [], _ => rfl
  | n, x :: xs, h => by
    unfold D.fits at h
    rw [Bool.and_eq_true] at h
    show (PyData.canLay0 x.py && PyData.canLayAll0 (D.pys xs)) = true
    rw [fit_lay h.1, fits_lay h.2]; rfl
end
mutual
theorem fit_deep : ∀ {n : Nat} {d : D}, D.fit n d = true → d.py.depth ≤ n
  | _, .non, _ => Nat.zero_le _
  | _, .bl _, _ => Nat.zero_le _
  | _, .int _, _ => Nat.zero_le _
  | n, .str s, h => Nat.zero_le _
  | 0, .tup xs, h => by simp [D.fit] at h
  | 0, .lst xs, h => by simp [D.fit] at h
  | n + 1, .tup xs, h => Nat.succ_le_succ (fits_deep (n := n) (by unfold D.fit at h; exact h))
  | n + 1, .lst xs, h => Nat.succ_le_succ (fits_deep (n := n) (by unfold D.fit at h; exact h))
  | n, .scr xs, h => by unfold D.fit at h; cases n <;> cases h
  | n, .loc k, h => by unfold D.fit at h; cases n <;> cases h
  | n, .pr k, h => by unfold D.fit at h; cases n <;> cases h
theorem fits_deep : ∀ {n : Nat} {ds : List D}, D.fits n ds = true → PyData.depthAll (D.pys ds) ≤ n
  | _, [], _ => Nat.zero_le _
  | n, x :: xs, h => by
    unfold D.fits at h
    rw [Bool.and_eq_true] at h
    exact Nat.max_le.mpr ⟨fit_deep h.1, fits_deep h.2⟩
end
theorem fit_shaped {d : D} (h : D.fit 64 d = true) : SeqAt.shaped d.py = true := by
  unfold SeqAt.shaped
  rw [fit_lay h, decide_eq_true (fit_deep h)]; rfl
mutual
theorem eqv_py : ∀ {n m : Nat} {a b : D}, D.fit n a = true → D.fit m b = true → PyData.eqv a.py b.py = D.eqv a b
  | n, m, .tup xs, .tup ys, h1, h2 => by
    cases n with
    | zero => simp [D.fit] at h1
    | succ n => cases m with
      | zero => simp [D.fit] at h2
      | succ m =>
        unfold D.fit at h1 h2
        show PyData.eqvAll (D.pys xs) (D.pys ys) = D.eqvs xs ys
        exact eqvs_py h1 h2
  | n, m, .lst xs, .lst ys, h1, h2 => by
    cases n with
    | zero => simp [D.fit] at h1
    | succ n => cases m with
      | zero => simp [D.fit] at h2
      | succ m =>
        unfold D.fit at h1 h2
        show PyData.eqvAll (D.pys xs) (D.pys ys) = D.eqvs xs ys
        exact eqvs_py h1 h2
  | n, m, .scr xs, _, h1, _ => by unfold D.fit at h1; cases n <;> cases h1
  | n, m, .loc xs, _, h1, _ => by unfold D.fit at h1; cases n <;> cases h1
  | n, m, .pr xs, _, h1, _ => by unfold D.fit at h1; cases n <;> cases h1
  | n, m, .non, b, h1, h2 => by cases b <;> first | rfl | (unfold D.fit at h2; cases m <;> cases h2)
  | n, m, .bl x, b, h1, h2 => by cases b <;> first | rfl | (unfold D.fit at h2; cases m <;> cases h2)
  | n, m, .int x, b, h1, h2 => by cases b <;> first | rfl | (unfold D.fit at h2; cases m <;> cases h2)
  | n, m, .str x, b, h1, h2 => by cases b <;> first | rfl | (unfold D.fit at h2; cases m <;> cases h2)
  | n, m, .tup xs, .non, h1, h2 => rfl
  | n, m, .tup xs, .bl _, h1, h2 => rfl
  | n, m, .tup xs, .int _, h1, h2 => rfl
  | n, m, .tup xs, .str _, h1, h2 => rfl
  | n, m, .tup xs, .lst _, h1, h2 => rfl
  | n, m, .tup xs, .scr _, h1, h2 => by unfold D.fit at h2; cases m <;> cases h2
  | n, m, .tup xs, .loc _, h1, h2 => by unfold D.fit at h2; cases m <;> cases h2
  | n, m, .tup xs, .pr _, h1, h2 => by unfold D.fit at h2; cases m <;> cases h2
  | n, m, .lst xs, .non, h1, h2 => rfl
  | n, m, .lst xs, .bl _, h1, h2 => rfl
  | n, m, .lst xs, .int _, h1, h2 => rfl
  | n, m, .lst xs, .str _, h1, h2 => rfl
  | n, m, .lst xs, .tup _, h1, h2 => rfl
  | n, m, .lst xs, .scr _, h1, h2 => by unfold D.fit at h2; cases m <;> cases h2
  | n, m, .lst xs, .loc _, h1, h2 => by unfold D.fit at h2; cases m <;> cases h2
  | n, m, .lst xs, .pr _, h1, h2 => by unfold D.fit at h2; cases m <;> cases h2
theorem eqvs_py : ∀ {n m : Nat} {a b : List D}, D.fits n a = true → D.fits m b = true → PyData.eqvAll (D.pys a) (D.pys b) = D.eqvs a b
  | _, _, [], [], _, _ => rfl
  | _, _, [], _ :: _, _, _ => rfl
  | _, _, _ :: _, [], _, _ => rfl
  | n, m, x :: xs, y :: ys, h1, h2 => by
    unfold D.fits at h1 h2
    rw [Bool.and_eq_true] at h1 h2
    show (PyData.eqv x.py y.py && PyData.eqvAll (D.pys xs) (D.pys ys)) = (D.eqv x y && D.eqvs xs ys)
    rw [eqv_py h1.1 h2.1, eqvs_py h1.2 h2.2]
end
section
variable {K : PySem.W.Frag} {H : Hp} {al : Addr → Prop} {ρ : Pl}
mutual
theorem fit_dp : ∀ {n : Nat} {d : D} {v : V}, D.fit n d = true → RD K H al ρ d v → Dp K H v d.py
  | _, _, _, _, .non => .non
  | _, _, _, _, .bl b => .bl b
  | _, _, _, _, .int b => .int b
  | _, _, _, _, .str b => .str b
  | 0, .tup xs, _, h, _ => by simp [D.fit] at h
  | 0, .lst xs, _, h, _ => by simp [D.fit] at h
  | n + 1, .tup xs, _, h, .tup ⟨o, h1, _⟩ h2 h3 h4 => .tup (.inl (.inr ⟨o, h1⟩)) (fits_dp (n := n) (by unfold D.fit at h; exact h) h4)
  | n + 1, .tup xs, _, h, .tupK h1 h2 h3 h4 h5 h6 h7 => .tup (.inr ⟨_, _, _, h1, h2.1, h3, h4, h5⟩) (fits_dp (n := n) (by unfold D.fit at h; exact h) h7)
  | n + 1, .lst xs, _, h, .lst h1 h2 h3 h4 => .lst (.inl (.inl h1)) (fits_dp (n := n) (by unfold D.fit at h; exact h) h4)
  | n, .scr xs, _, h, _ => by unfold D.fit at h; cases n <;> cases h
  | n, .loc k, _, h, _ => by unfold D.fit at h; cases n <;> cases h
  | n, .pr k, _, h, _ => by unfold D.fit at h; cases n <;> cases h
theorem fits_dp : ∀ {n : Nat} {ds : List D} {vs : List V}, D.fits n ds = true → RDs K H al ρ ds vs → DpAll K H vs (D.pys ds)
  | _, _, _, _, .nil => .nil
  | n, x :: xs, _, h, .cons q r => by
    unfold D.fits at h
    rw [Bool.and_eq_true] at h
    exact .cons (fit_dp h.1 q) (fits_dp h.2 r)
end
end
section
variable {K : PySem.W.Frag} {H : Hp} {ρ : Pl} {M : Sto} {x y : V} {dx dy : D} {b : Bool}
theorem seen_dp (rp : Rep K ρ M H) (q : RD K H (Al ρ M) ρ dx x) (h : D.fit 64 (dx.seen M) = true) : Dp K H x (dx.seen M).py := by
  cases dx with
  | loc n =>
    obtain ⟨a, rfl, ha⟩ := q.loc_inv
    have bad : D.fit 64 (.loc n) = true → False := fun z => Bool.false_ne_true z
    dsimp only [D.seen] at h ⊢
    cases e : M[n]? with
    | none => rw [e] at h; exact (bad h).elim
    | some o =>
      rw [e] at h
      cases o with
      | lst xs =>
        obtain ⟨vs, h1, _, h2⟩ := rp.lst_at e ha
        exact .lst (.inl (.inl h1)) (fits_dp (n := 63) h h2)
      | dead => exact (bad h).elim
      | dct _ => exact (bad h).elim
      | ins _ _ => exact (bad h).elim
  | _ => exact fit_dp h q
theorem scal_flat {a b : D} (h : D.scal a b = true) : a.flat = true ∧ b.flat = true := by
  unfold D.scal at h
  split at h
  · cases h
  · cases h
  · rw [Bool.and_eq_true] at h; exact h
theorem scal_eq (h : D.scal dx dy = true) {al : Addr → Prop} (qx : RD K H al ρ dx x) (qy : RD K H al ρ dy y) : L2.scal x y = true ∧ decide (x = y) = D.eqv dx dy := by
  have hf := scal_flat h
  cases dx <;> simp [D.flat] at hf <;> cases dy <;> simp [D.flat] at hf <;> cases qx <;> cases qy <;> first | (simp [D.scal] at h; done) | (refine ⟨rfl, ?_⟩; simp [D.eqv]; done) | (refine ⟨rfl, ?_⟩; rw [Bool.eq_iff_iff]; simp [D.eqv])
def rEqZ (K : PySem.W.Frag) : R2 := fun x y H Q => rEq x y H Q ∨ rEqD K x y H Q
def rNeZ (K : PySem.W.Frag) : R2 := fun x y H Q => rNe x y H Q ∨ rNeD K x y H Q
theorem eqD_rd {Q : VK} (rp : Rep K ρ M H) (qx : RD K H (Al ρ M) ρ dx x) (qy : RD K H (Al ρ M) ρ dy y) (e : eqD M dx dy = some b) : (Q (.bl b) H → rEqZ K x y H Q) ∧ (Q (.bl (!b)) H → rNeZ K x y H Q) := by
  unfold eqD at e
  split at e
  · rename_i h
    obtain ⟨h1, h2⟩ := scal_eq h qx qy
    have e := Option.some.inj e
    rw [← h2] at e
    subst e
    exact ⟨fun q => .inl ⟨h1, q⟩, fun q => .inl ⟨h1, q⟩⟩
  · simp only at e
    split at e
    · rename_i h
      rw [Bool.and_eq_true] at h
      have e := Option.some.inj e
      rw [← eqv_py h.1 h.2] at e
      subst e
      exact ⟨fun q => .inr ⟨_, _, seen_dp rp qx h.1, seen_dp rp qy h.2, fit_shaped h.1, fit_shaped h.2, q⟩, fun q => .inr ⟨_, _, seen_dp rp qx h.1, seen_dp rp qy h.2, fit_shaped h.1, fit_shaped h.2, q⟩⟩
    · cases e
end
/-! ### <, in, .. -/
def copOf : Cop → CmpOp
  | .eq => .Eq | .ne => .NotEq | .lt => .Lt | .le => .LtE | .gt => .Gt | .ge => .GtE | .inn => .In | .nin => .NotIn
def rDinZ (neg : Bool) : R2 := fun y x H Q => ∃ a o, x = .ref a ∧ DGet H a y o ∧ Q (.bl (if neg then !o.isSome else o.isSome)) H
theorem op_dinZ {X : Cx} (hu : X.A.units + 1 < cLine) : OpR X (compareOp .In) (rDinZ false) := by
  intro pins s σ H x y v u Q I rx ry h
  obtain ⟨a, o, rfl, g, q⟩ := h
  obtain rfl : u = Value.ref a := ry
  exact d_in hu I g rx fun s' J => ⟨.bl o.isSome, H, J, rfl, q⟩
theorem op_dninZ {X : Cx} (hu : X.A.units + 1 < cLine) : OpR X (compareOp .NotIn) (rDinZ true) := by
  intro pins s σ H x y v u Q I rx ry h
  obtain ⟨a, o, rfl, g, q⟩ := h
  obtain rfl : u = Value.ref a := ry
  exact d_notIn hu I g rx fun s' J => ⟨.bl (!o.isSome), H, J, rfl, q⟩
def rInZ (K : PySem.W.Frag) : R2 := fun x y H Q => (∃ (c : Nat) (z : Str), x = .str ⟨#[c]⟩ ∧ y = .str z ∧ Q (.bl (decide (c ∈ z.cps.toList))) H) ∨ rIn K false x y H Q ∨ rDinZ false x y H Q ∨ rInD K x y H Q
def rNinZ (K : PySem.W.Frag) : R2 := fun x y H Q => (∃ (c : Nat) (z : Str), x = .str ⟨#[c]⟩ ∧ y = .str z ∧ Q (.bl (!decide (c ∈ z.cps.toList))) H) ∨ rIn K true x y H Q ∨ rDinZ true x y H Q ∨ rNotInD K x y H Q
def rLtZ : R2 := fun x y H Q => (∃ i j, x = .int i ∧ y = .int j ∧ Q (.bl (decide (i < j))) H) ∨ ∃ i j, x = .str i ∧ y = .str j ∧ Q (.bl (decide (i.cps.toList < j.cps.toList))) H
def rCmpZ (K : PySem.W.Frag) : Cop → R2
  | .eq => rEqZ K
  | .ne => rNeZ K
  | .lt => rLtZ
  | .le => rI0 fun i j => .bl (decide (i ≤ j))
  | .gt => rI0 fun i j => .bl (decide (j < i))
  | .ge => rI0 fun i j => .bl (decide (j ≤ i))
  | .inn => rInZ K
  | .nin => rNinZ K
theorem op_cmpZ {X : Cx} (hu : X.A.units + 65 < cLine) : ∀ op : Cop, OpR X (compareOp (copOf op)) (rCmpZ X.K op)
  | .eq => OpR.or op_eq (op_eqD (by omega))
  | .ne => OpR.or op_ne (op_neD (by omega))
  | .lt => OpR.or op_lt op_lt_str
  | .le => op_le
  | .gt => op_gt
  | .ge => op_ge
  | .inn => OpR.or op_in_sign (OpR.or op_in_seq (OpR.or (op_dinZ (by omega)) (op_inD hu)))
  | .nin => OpR.or op_notIn_sign (OpR.or op_notIn_seq (OpR.or (op_dninZ (by omega)) (op_notInD hu)))
section
variable {K : PySem.W.Frag} {H : Hp} {ρ : Pl} {M : Sto} {x y : V} {dx dy : D} {b : Bool} {al : Addr → Prop}
theorem flat_rd (h : dx.flat = true) (q : RD K H al ρ dx x) : flatV x = true := by
  cases q <;> first | rfl | simp [D.flat] at h
theorem flats_rd : ∀ {ds : List D} {vs : List V}, ds.all D.flat = true → RDs K H al ρ ds vs → vs.all flatV = true
  | _, _, _, .nil => rfl
  | _, _, h, .cons q r => by
    rw [List.all_cons, Bool.and_eq_true] at h
    rw [List.all_cons, flat_rd h.1 q, flats_rd h.2 r]; rfl
theorem eqv_flat (hx : dx.flat = true) (hy : dy.flat = true) (qx : RD K H al ρ dx x) (qy : RD K H al ρ dy y) : eqV x y = D.eqv dx dy := by
  cases qx <;> first | (simp [D.flat] at hx; done) | (cases qy <;> first | (simp [D.flat] at hy; done) | rfl)
theorem any_flat (hx : dx.flat = true) (qx : RD K H al ρ dx x) : ∀ {ds : List D} {vs : List V}, ds.all D.flat = true → RDs K H al ρ ds vs → inV x vs = ds.any fun z => D.eqv z dx
  | _, _, _, .nil => rfl
  | _, _, h, .cons q r => by
    rw [List.all_cons, Bool.and_eq_true] at h
    have ih := any_flat hx qx h.2 r
    unfold inV at ih ⊢
    rw [List.any_cons, List.any_cons, ih, eqv_flat h.1 hx q qx]
theorem keys_any : ∀ {kvs : List (Key × D)} {ws : List (Key × V)} (k : Key), RKs K H al ρ kvs ws → (kvs.any fun kv => decide (kv.1 = k)) = (valV ws k).isSome
  | _, _, k, .nil => rfl
  | _, _, k, .cons (k := j) q r => by
    rw [List.any_cons, keys_any k r]
    by_cases e : j = k
    · rw [valV_pos (p := (j, _)) e, decide_eq_true e]; rfl
    · rw [valV_neg (p := (j, _)) e, decide_eq_false e]; rfl
theorem keys_get : ∀ {kvs : List (Key × D)} {ws : List (Key × V)} (k : Key), RKs K H al ρ kvs ws → (getK kvs k = none ∧ valV ws k = none) ∨ ∃ d v, getK kvs k = some d ∧ valV ws k = some v ∧ RD K H al ρ d v
  | _, _, k, .nil => .inl ⟨rfl, rfl⟩
  | _, _, k, .cons (k := j) q r => by
    by_cases e : j = k
    · exact .inr ⟨_, _, by simp [getK, e], valV_pos (p := (j, _)) e, q⟩
    · rw [valV_neg (p := (j, _)) e]
      rcases keys_get k r with ⟨h1, h2⟩ | ⟨d, v, h1, h2, h3⟩
      · exact .inl ⟨by unfold getK at h1 ⊢; rw [List.find?_cons_of_neg (by simpa using e)]; exact h1, h2⟩
      · exact .inr ⟨d, v, by unfold getK at h1 ⊢; rw [List.find?_cons_of_neg (by simpa using e)]; exact h1, h2, h3⟩
theorem inStr_inv {a c : Str} (e : inStr a c = some b) : ∃ n, a = ⟨#[n]⟩ ∧ b = decide (n ∈ c.cps.toList) := by
  unfold inStr at e
  split at e
  · rename_i n h
    refine ⟨n, ?_, (Option.some.inj e).symm⟩
    obtain ⟨z⟩ := a
    have : z = #[n] := by
      apply Array.toList_inj.mp
      simpa using h
    rw [this]
  · cases e
theorem any_py {n m : Nat} {d : D} (hd : D.fit m d = true) : ∀ {ds : List D}, D.fits n ds = true → ((D.pys ds).any fun z => PyData.eqv z d.py) = ds.any fun z => D.eqv z d
  | [], _ => rfl
  | x :: r, h => by
    unfold D.fits at h
    rw [Bool.and_eq_true] at h
    show (PyData.eqv x.py d.py || (D.pys r).any fun z => PyData.eqv z d.py) = _
    rw [eqv_py h.1 hd, any_py hd h.2, List.any_cons]
theorem inD_rd {Q : VK} (rp : Rep K ρ M H) (qx : RD K H (Al ρ M) ρ dx x) (qy : RD K H (Al ρ M) ρ dy y) (e : inD M dx dy = some b) : (Q (.bl b) H → rInZ K x y H Q) ∧ (Q (.bl (!b)) H → rNinZ K x y H Q) := by
  have dat : ∀ {xs : List D} {vs : List V} {a : Addr}, y = .ref a → H a = some (.lst vs) → RDs K H (Al ρ M) ρ xs vs → D.fit 64 dx = true → D.fits 63 xs = true → b = (xs.any fun z => D.eqv z dx) →
      (Q (.bl b) H → rInZ K x y H Q) ∧ (Q (.bl (!b)) H → rNinZ K x y H Q) := by
    intro xs vs a ey ha r h1 h2 e
    subst ey
    have k1 : Dp K H (.ref a) (.list (D.pys xs)) := .lst (.inl (.inl ha)) (fits_dp (n := 63) h2 r)
    have k2 : SeqAt.shaped (.list (D.pys xs)) = true := fit_shaped (d := .lst xs) (show D.fit 64 (.lst xs) = true from h2)
    rw [e, ← any_py h1 h2]
    exact ⟨fun q => .inr (.inr (.inr ⟨_, _, fit_dp h1 qx, k1, fit_shaped h1, k2, q⟩)), fun q => .inr (.inr (.inr ⟨_, _, fit_dp h1 qx, k1, fit_shaped h1, k2, q⟩))⟩
  have seqL : ∀ {xs : List D} {vs : List V} {a : Addr}, y = .ref a → H a = some (.lst vs) → RDs K H (Al ρ M) ρ xs vs → (if (dx.flat && xs.all D.flat) = true then some (xs.any fun z => D.eqv z dx) else if (D.fit 64 dx && D.fits 63 xs) = true then some (xs.any fun z => D.eqv z dx) else none) = some b →
      (Q (.bl b) H → rInZ K x y H Q) ∧ (Q (.bl (!b)) H → rNinZ K x y H Q) := by
    intro xs vs a ey ha r e
    split at e
    · rename_i h
      rw [Bool.and_eq_true] at h
      have e := Option.some.inj e
      rw [← any_flat h.1 qx h.2 r] at e
      subst e
      exact ⟨fun q => .inr (.inl ⟨a, vs, ey, .inl (.inl (.inl ha)), flat_rd h.1 qx, flats_rd h.2 r, q⟩), fun q => .inr (.inl ⟨a, vs, ey, .inl (.inl (.inl ha)), flat_rd h.1 qx, flats_rd h.2 r, q⟩)⟩
    · split at e
      · rename_i h
        rw [Bool.and_eq_true] at h
        exact dat ey ha r h.1 h.2 (Option.some.inj e).symm
      · cases e
  have seq : ∀ {xs : List D} {vs : List V} {a : Addr}, y = .ref a → (SqL K H a vs ∨ SqT K H a vs) → RDs K H (Al ρ M) ρ xs vs → (if (dx.flat && xs.all D.flat) = true then some (xs.any fun z => D.eqv z dx) else none) = some b →
      (Q (.bl b) H → rInZ K x y H Q) ∧ (Q (.bl (!b)) H → rNinZ K x y H Q) := by
    intro xs vs a ey hs r e
    split at e
    · rename_i h
      rw [Bool.and_eq_true] at h
      have e := Option.some.inj e
      rw [← any_flat h.1 qx h.2 r] at e
      subst e
      exact ⟨fun q => .inr (.inl ⟨a, vs, ey, hs, flat_rd h.1 qx, flats_rd h.2 r, q⟩), fun q => .inr (.inl ⟨a, vs, ey, hs, flat_rd h.1 qx, flats_rd h.2 r, q⟩)⟩
    · cases e
  unfold inD at e
  split at e
  · obtain ⟨n, rfl, rfl⟩ := inStr_inv e
    rw [qx.str_inv, qy.str_inv]
    exact ⟨fun q => .inl ⟨n, _, rfl, rfl, q⟩, fun q => .inl ⟨n, _, rfl, rfl, q⟩⟩
  · obtain ⟨a, rfl, ha⟩ := qy.loc_inv
    split at e
    · rename_i h
      obtain ⟨vs, h1, _, h2⟩ := rp.lst_at h ha
      exact seqL rfl h1 h2 e
    · rename_i h
      obtain ⟨ws, h1, _, h2⟩ := rp.dct_at h ha
      rw [qx.str_inv]
      have e := Option.some.inj e
      rw [keys_any _ h2] at e
      subst e
      exact ⟨fun q => .inr (.inr (.inl ⟨a, _, rfl, DGet.k (k := Sum.inr _) h1, q⟩)), fun q => .inr (.inr (.inl ⟨a, _, rfl, DGet.k (k := Sum.inr _) h1, q⟩))⟩
    · rename_i h
      obtain ⟨ws, h1, _, h2⟩ := rp.dct_at h ha
      rw [qx.int_inv]
      have e := Option.some.inj e
      rw [keys_any _ h2] at e
      subst e
      exact ⟨fun q => .inr (.inr (.inl ⟨a, _, rfl, DGet.k (k := Sum.inl _) h1, q⟩)), fun q => .inr (.inr (.inl ⟨a, _, rfl, DGet.k (k := Sum.inl _) h1, q⟩))⟩
    · cases e
  · obtain ⟨a, vs, ey, h1, h2, h3⟩ := qy.tup_inv
    exact seq ey (.inr h1) h3 e
  · obtain ⟨a, vs, ey, h1, h2, h3, h4⟩ := qy.lst_inv
    exact seqL ey h1 h4 e
  · cases e
theorem cmpD_rd {Q : VK} {op : Cop} (rp : Rep K ρ M H) (qx : RD K H (Al ρ M) ρ dx x) (qy : RD K H (Al ρ M) ρ dy y) (e : cmpD M op dx dy = some b) (q : Q (.bl b) H) : rCmpZ K op x y H Q := by
  have inv : ∀ {o : Option Bool}, o.map (!·) = some b → ∃ c, o = some c ∧ b = !c := by
    intro o h
    cases o with
    | none => cases h
    | some c => exact ⟨c, rfl, (Option.some.inj h).symm⟩
  unfold cmpD at e
  split at e
  · exact (eqD_rd rp qx qy e).1 q
  · obtain ⟨c, h, rfl⟩ := inv e
    exact (eqD_rd rp qx qy h).2 q
  · rw [qx.int_inv, qy.int_inv]; cases Option.some.inj e; exact .inl ⟨_, _, rfl, rfl, q⟩
  · rw [qx.int_inv, qy.int_inv]; cases Option.some.inj e; exact ⟨_, _, rfl, rfl, q⟩
  · rw [qx.int_inv, qy.int_inv]; cases Option.some.inj e; exact ⟨_, _, rfl, rfl, q⟩
  · rw [qx.int_inv, qy.int_inv]; cases Option.some.inj e; exact ⟨_, _, rfl, rfl, q⟩
  · rw [qx.str_inv, qy.str_inv]; cases Option.some.inj e; exact .inr ⟨_, _, rfl, rfl, q⟩
  · exact (inD_rd rp qx qy e).1 q
  · obtain ⟨c, h, rfl⟩ := inv e
    exact (inD_rd rp qx qy h).2 q
  · cases e
end
end Z


/-! Z4: built-in calls, places, slices by values. -/
namespace Z
open PySem L2 PySem.Spec PyProof.Rows

/-! ### texts in order -/
theorem ltCps_iff : ∀ a b : List Nat, ltCps a b = decide (a < b)
  | [], [] => by simp [ltCps]
  | [], _ :: _ => by simp [ltCps]
  | _ :: _, [] => by simp [ltCps]
  | a :: r, b :: t => by
    unfold ltCps
    rw [ltCps_iff r t, Bool.eq_iff_iff]
    simp [List.cons_lt_cons_iff]
theorem ltStr_cps (x y : Str) : ltStr x y = ltCps x.cps.toList y.cps.toList := (ltCps_iff _ _).symm
theorem ltStr_irr (x : Str) : ltStr x x = false := by
  unfold ltStr; exact decide_eq_false (List.lt_irrefl _)
theorem ltStr_trans {x y z : Str} (h : ltStr x y = true) (h2 : ltStr y z = true) : ltStr x z = true := by
  unfold ltStr at *
  exact decide_eq_true (List.lt_trans (of_decide_eq_true h) (of_decide_eq_true h2))
theorem str_ext {x y : Str} (h : x.cps.toList = y.cps.toList) : x = y := by
  cases x; cases y; simp only [Str.mk.injEq]; exact Array.toList_inj.mp h
theorem ltStr_tri {x y : Str} (h : ltStr x y = false) (h2 : ltStr y x = false) : x = y := by
  unfold ltStr at *
  have h := of_decide_eq_false h
  have h2 := of_decide_eq_false h2
  exact str_ext (List.le_antisymm (List.not_lt.mp h2) (List.not_lt.mp h))
theorem ltStr_asym {x y : Str} (h : ltStr x y = true) : ltStr y x = false := by
  cases e : ltStr y x with
  | false => rfl
  | true => have := ltStr_trans h e; rw [ltStr_irr] at this; cases this
abbrev LeS (x y : Str) : Prop := ltStr y x = false
theorem leS_trans {x y z : Str} (h : LeS x y) (h2 : LeS y z) : LeS x z := by
  cases e : ltStr z x with
  | false => exact e
  | true =>
    cases e2 : ltStr x y with
    | true => have := ltStr_trans e e2; rw [h2] at this; cases this
    | false => have := ltStr_tri e2 h; subst this; rw [h2] at e; cases e
theorem insStr_perm (x : Str) : ∀ l : List Str, (insStr x l).Perm (x :: l)
  | [] => .refl _
  | y :: r => by
    unfold insStr
    split
    · exact ((insStr_perm x r).cons y).trans (List.Perm.swap x y r)
    · exact .refl _
theorem sortStr_perm : ∀ l : List Str, (sortStr l).Perm l
  | [] => .refl _
  | x :: r => (insStr_perm x (sortStr r)).trans ((sortStr_perm r).cons x)
theorem insStr_sorted (x : Str) : ∀ {l : List Str}, l.Pairwise LeS → (insStr x l).Pairwise LeS
  | [], _ => List.pairwise_singleton _ _
  | y :: r, h => by
    obtain ⟨h1, h2⟩ := List.pairwise_cons.mp h
    unfold insStr
    split
    · rename_i e
      refine List.pairwise_cons.mpr ⟨fun z hz => ?_, insStr_sorted x h2⟩
      rcases List.mem_cons.mp ((insStr_perm x r).mem_iff.mp hz) with rfl | hz
      · exact ltStr_asym e
      · exact h1 z hz
    · rename_i e
      have e : LeS x y := by simpa using e
      refine List.pairwise_cons.mpr ⟨fun z hz => ?_, h⟩
      rcases List.mem_cons.mp hz with rfl | hz
      · exact e
      · exact leS_trans e (h1 z hz)
theorem sortStr_sorted : ∀ l : List Str, (sortStr l).Pairwise LeS
  | [] => .nil
  | x :: r => insStr_sorted x (sortStr_sorted r)
theorem pairwise_of_sortedS : ∀ {l : List Str}, sortedS l = true → l.Pairwise LeS := by
  have key : ∀ (r : List Str) (p : Str), risingS p r = true → (p :: r).Pairwise LeS := by
    intro r
    induction r with
    | nil => intro p _; exact List.pairwise_singleton _ _
    | cons x r ih =>
      intro p h
      unfold risingS at h
      rw [Bool.and_eq_true] at h
      have h1 : LeS p x := by rw [LeS, ltStr_cps]; simpa using h.1
      have h2 := ih x h.2
      refine List.pairwise_cons.mpr ⟨fun z hz => ?_, h2⟩
      rcases List.mem_cons.mp hz with rfl | hz
      · exact h1
      · exact leS_trans h1 ((List.pairwise_cons.mp h2).1 z hz)
  intro l h
  cases l with
  | nil => exact .nil
  | cons x r => exact key r x h
theorem sorted_one : ∀ {l m : List Str}, l.Pairwise LeS → m.Pairwise LeS → l.Perm m → l = m
  | [], m, _, _, p => by simpa using p.symm
  | x :: l, [], _, _, p => by simpa using p
  | x :: l, y :: m, h1, h2, p => by
    obtain ⟨a1, a2⟩ := List.pairwise_cons.mp h1
    obtain ⟨b1, b2⟩ := List.pairwise_cons.mp h2
    have e : x = y := by
      have hx : x ∈ y :: m := p.mem_iff.mp List.mem_cons_self
      have hy : y ∈ x :: l := p.mem_iff.mpr List.mem_cons_self
      rcases List.mem_cons.mp hx with rfl | hx
      · rfl
      · rcases List.mem_cons.mp hy with rfl | hy
        · rfl
        · exact ltStr_tri (b1 x hx) (a1 y hy)
    subst e
    rw [sorted_one a2 b2 (List.Perm.cons_inv p)]
theorem sortStr_one {xs ys : List Str} (p : ys.Perm xs) (h : sortedS ys = true) : ys = sortStr xs :=
  sorted_one (pairwise_of_sortedS h) (sortStr_sorted xs) (p.trans (sortStr_perm xs).symm)

/-! ### rows of one kind -/
section
variable {K : PySem.W.Frag} {H : Hp} {al : Addr → Prop} {ρ : Pl}
theorem strs_rd : ∀ {ds : List D} {vs : List V} {bs : List Str}, RDs K H al ρ ds vs → strsD ds = some bs → vs = bs.map V.str
  | [], _, _, .nil, e => by cases e; rfl
  | .str i :: r, _, bs, .cons q t, e => by
    unfold strsD at e
    cases h : strsD r with
    | none => rw [h] at e; cases e
    | some cs => rw [h] at e; cases e; rw [List.map_cons, q.str_inv, strs_rd t h]
  | .non :: r, _, _, _, e => by cases e
  | .bl _ :: r, _, _, _, e => by cases e
  | .int _ :: r, _, _, _, e => by cases e
  | .tup _ :: r, _, _, _, e => by cases e
  | .lst _ :: r, _, _, _, e => by cases e
  | .scr _ :: r, _, _, _, e => by cases e
  | .loc _ :: r, _, _, _, e => by cases e
  | .pr _ :: r, _, _, _, e => by cases e
theorem ints_rd : ∀ {ds : List D} {vs : List V} {bs : List Int}, RDs K H al ρ ds vs → intsD ds = some bs → vs = bs.map V.int
  | [], _, _, .nil, e => by cases e; rfl
  | .int i :: r, _, bs, .cons q t, e => by
    unfold intsD at e
    cases h : intsD r with
    | none => rw [h] at e; cases e
    | some cs => rw [h] at e; cases e; rw [List.map_cons, q.int_inv, ints_rd t h]
  | .non :: r, _, _, _, e => by cases e
  | .bl _ :: r, _, _, _, e => by cases e
  | .str _ :: r, _, _, _, e => by cases e
  | .tup _ :: r, _, _, _, e => by cases e
  | .lst _ :: r, _, _, _, e => by cases e
  | .scr _ :: r, _, _, _, e => by cases e
  | .loc _ :: r, _, _, _, e => by cases e
  | .pr _ :: r, _, _, _, e => by cases e
theorem bools_rd : ∀ {ds : List D} {vs : List V} {bs : List Bool}, RDs K H al ρ ds vs → boolsD ds = some bs → vs = bs.map V.bl
  | [], _, _, .nil, e => by cases e; rfl
  | .bl i :: r, _, bs, .cons q t, e => by
    unfold boolsD at e
    cases h : boolsD r with
    | none => rw [h] at e; cases e
    | some cs => rw [h] at e; cases e; rw [List.map_cons, q.bl_inv, bools_rd t h]
  | .non :: r, _, _, _, e => by cases e
  | .int _ :: r, _, _, _, e => by cases e
  | .str _ :: r, _, _, _, e => by cases e
  | .tup _ :: r, _, _, _, e => by cases e
  | .lst _ :: r, _, _, _, e => by cases e
  | .scr _ :: r, _, _, _, e => by cases e
  | .loc _ :: r, _, _, _, e => by cases e
  | .pr _ :: r, _, _, _, e => by cases e
theorem rds_strs : ∀ bs : List Str, RDs K H al ρ (bs.map D.str) (bs.map V.str)
  | [] => .nil
  | b :: r => .cons (.str b) (rds_strs r)
theorem rd_key (k : Key) : RD K H al ρ (keyD k) (kV k) := by
  cases k with
  | inl i => exact .int i
  | inr x => exact .str x
theorem rds_keys : ∀ {kvs : List (Key × D)} {ws : List (Key × V)}, RKs K H al ρ kvs ws → RDs K H al ρ (kvs.map fun kv => keyD kv.1) (ws.map fun kv => kV kv.1)
  | _, _, .nil => .nil
  | _, _, .cons (k := k) q r => .cons (rd_key k) (rds_keys r)
theorem keys_same : ∀ {kvs : List (Key × D)} {ws : List (Key × V)}, RKs K H al ρ kvs ws → ws.map (·.1) = kvs.map (·.1)
  | _, _, .nil => rfl
  | _, _, .cons q r => by rw [List.map_cons, List.map_cons, keys_same r]
theorem keys_strs : ∀ {kvs : List (Key × D)} {bs : List Str}, strsD (kvs.map fun kv => keyD kv.1) = some bs → kvs.map (·.1) = bs.map Sum.inr
  | [], _, e => by cases e; rfl
  | (.inl i, d) :: r, _, e => by cases e
  | (.inr i, d) :: r, bs, e => by
    have e : (strsD (r.map fun kv => keyD kv.1)).map (i :: ·) = some bs := e
    cases h : strsD (r.map fun kv => keyD kv.1) with
    | none => rw [h] at e; cases e
    | some cs => rw [h] at e; cases e; rw [List.map_cons, List.map_cons, keys_strs h]
theorem strsD_len : ∀ {ds : List D} {bs : List Str}, strsD ds = some bs → bs.length = ds.length
  | [], _, e => by cases e; rfl
  | .str i :: r, bs, e => by
    unfold strsD at e
    cases h : strsD r with
    | none => rw [h] at e; cases e
    | some cs => rw [h] at e; cases e; rw [List.length_cons, List.length_cons, strsD_len h]
  | .non :: r, _, e => by cases e
  | .bl _ :: r, _, e => by cases e
  | .int _ :: r, _, e => by cases e
  | .tup _ :: r, _, e => by cases e
  | .lst _ :: r, _, e => by cases e
  | .scr _ :: r, _, e => by cases e
  | .loc _ :: r, _, e => by cases e
  | .pr _ :: r, _, e => by cases e
end
/-! ### a new list, as a value or not -/
section
variable {K : PySem.W.Frag} {ca : String → Addr} {W : WX} {σ : L2.St} {ρ : Pl} {M : Sto} {H : Hp} {Q : VK} {m : Bool} {xs : List D} {vs : List V}
theorem newList_rd (rp : Rep K ρ M H) (q : RDs K H (Al ρ M) ρ xs vs) (z : vs.length ≤ sizeLine) (f : Fi K ca (rDD K) W σ ρ M H (newList m xs M) Q) (p : Addr) (hp : H p = none) : Q (.ref p) (upd H p (.lst vs)) := by
  unfold newList at f
  cases m with
  | true =>
    obtain ⟨r1, x1, e1⟩ := rp.newL hp z q
    exact f _ _ _ r1 x1 (.loc e1)
  | false =>
    obtain ⟨r1, x1, q1⟩ := rp.newV hp z q
    exact f _ _ _ r1 x1 q1
theorem asSeq_rd {d : D} {v : V} (rp : Rep K ρ M H) (q : RD K H (Al ρ M) ρ d v) (e : asSeq M d = some xs) : ∃ a vs, v = .ref a ∧ vs.length ≤ sizeLine ∧ RDs K H (Al ρ M) ρ xs vs ∧ ((SqL K H a vs ∧ ∀ ys, d ≠ .tup ys) ∨ (PlT K H a vs ∧ d = .tup xs)) := by
  unfold asSeq at e
  split at e
  · cases e
    obtain ⟨a, vs, h1, h2, h3, h4⟩ := q.tup_pl
    exact ⟨a, vs, h1, h3, h4, .inr ⟨h2, rfl⟩⟩
  · cases e
    obtain ⟨a, vs, h1, h2, h3, h4, h5⟩ := q.lst_inv
    exact ⟨a, vs, h1, h4, h5, .inl ⟨.inl (.inl h2), fun _ z => nomatch z⟩⟩
  · split at e
    · rename_i h
      cases e
      obtain ⟨a, h1, h2⟩ := q.loc_inv
      obtain ⟨vs, h3, z, h4⟩ := rp.lst_at h h2
      exact ⟨a, vs, h1, z, h4, .inl ⟨.inl (.inl h3), fun _ z => nomatch z⟩⟩
    · cases e
  · cases e
theorem RDs.one {d : D} {vs : List V} {H : Hp} {al : Addr → Prop} {ρ : Pl} (h : RDs K H al ρ [d] vs) : ∃ v, vs = [v] ∧ RD K H al ρ d v := by
  cases h with
  | cons q r => cases r; exact ⟨_, rfl, q⟩
theorem RDs.two {d e : D} {vs : List V} {H : Hp} {al : Addr → Prop} {ρ : Pl} (h : RDs K H al ρ [d, e] vs) : ∃ v w, vs = [v, w] ∧ RD K H al ρ d v ∧ RD K H al ρ e w := by
  cases h with
  | cons q r => cases r with | cons q2 r => cases r; exact ⟨_, _, rfl, q, q2⟩
end
end Z


/-! Zx: rules that the library lacks: plain tuples, dict(tuple of pairs), sorted(set(texts)). -/
namespace Z
open PySem L2 PySem.Spec PyProof.Rows
section
variable {X : Cx}
/-- a tuple laid, known as the plain object that it is -/
theorem pe_tupF {es : List Expr} {t : TA} {k : Nat} {pos : Pos} (h : PA X es t) : PE X (.Tuple es k pos) (fun σ H Q => t σ H fun xs H1 => xs.length ≤ sizeLine ∧ ∀ (p : Addr) (o : Obj), o.dict = none → H1 p = none → Q (.ref p) (upd H1 p (.frz o (.tup xs)))) := by
  constructor
  intro pins s σ H Q I hq
  refine wpAny_Tuple_spliced (thn (h.run pos pins s σ H _ I hq) ?_)
  rintro us s1 ⟨xs, H1, I1, r, z, q⟩
  refine ⟨by rw [← r.length]; exact z, .ref s1.heap.objs.size, upd H1 s1.heap.objs.size (.frz { cls := .type "tuple", data := .seq us.toArray } (.tup xs)), ?_, rfl, q _ _ rfl (I1.hok.fresh (Nat.le_refl _))⟩
  refine I1.laid (t' := s1.toks) (fun b u e => Heap.get?_push_of_some _ e) (Nat.le_refl _) ⟨Heap.get?_push_size _ rfl, z, us, r, ?_⟩
  exact ⟨_, Heap.get?_push_size _ rfl, rfl, _, rfl⟩
/-- tuple(xs) -/
theorem call_tupleF : CallR X (.type "tuple") (fun xs H Q => ∃ p ys, xs = [.ref p] ∧ ((SqL X.K H p ys ∧ ∀ (l : Addr) (o : Obj), o.dict = none → H l = none → Q (.ref l) (upd H l (.frz o (.tup ys)))) ∨ (SqT X.K H p ys ∧ Q (.ref p) H))) := by
  rintro pins s σ H xs us Q I r ⟨p, ys, rfl, h⟩
  obtain ⟨u, rfl, rx⟩ := vals1 r
  cases rx
  rcases h with ⟨hq, q⟩ | ⟨hq, q⟩
  · obtain ⟨its, r', pl, hz⟩ := I.list hq
    have hlen := r'.length
    refine call_tuple_list pl.isList ?_ (by rw [List.size_toArray]; omega)
    intro h' kp
    have I1 : Inv X pins σ H { s with heap := h' } := I.kept (t' := s.toks) kp
    refine ⟨.ref h'.objs.size, upd H h'.objs.size (.frz { cls := .type "tuple", data := .seq its.toArray } (.tup ys)), ?_, rfl, q _ _ rfl (I1.hok.fresh (Nat.le_refl _))⟩
    exact I1.laid (t' := s.toks) (fun b o e => Heap.get?_push_of_some _ e) (Nat.le_refl _) ⟨Heap.get?_push_size _ rfl, hz, its, r', IsTup.new _ _⟩
  · obtain ⟨its, r', pl, hz⟩ := I.tuple hq
    exact call_tuple_same pl ⟨.ref p, H, I, rfl, q⟩
/-- pairs as the heap has them -/
theorem pairs_at {pins : List (Addr × Obj)} {σ : L2.St} {H : Hp} {s : Shared} (I : Inv X pins σ H s) : ∀ {ps : List Addr} {kvs : List (Key × V)}, Paired (fun p kv => SqT X.K H p [kV kv.1, kv.2]) ps kvs →
    ∃ (prs : List (Key × Value)) (pv : List (Value × Value)), KV kvs prs ∧ prs.length = ps.length ∧ pv.length = ps.length ∧ ∀ (j : Nat) (k v : Value), pv[j]? = some (k, v) → ∃ (b : Addr) (kk : Key), ps[j]? = some b ∧ IsTup s.heap b #[k, v] ∧ prs[j]? = some (kk, v) ∧ keyIs kk k = true
  | _, _, .nil => ⟨[], [], .nil, rfl, rfl, fun j k v e => by simp at e⟩
  | _, _, .cons (a := p) (b := kv) h t => by
    obtain ⟨prs, pv, r, hl, hl2, hp⟩ := pairs_at I t
    obtain ⟨its, rv, ht, _⟩ := I.tuple h
    obtain ⟨u, y, rfl, ru, ry⟩ := vals2 rv
    refine ⟨(kv.1, y) :: prs, (u, y) :: pv, .cons ⟨rfl, ry⟩ r, by simp [hl], by simp [hl2], fun j k v e => ?_⟩
    cases j with
    | zero =>
      simp at e
      obtain ⟨rfl, rfl⟩ := e
      exact ⟨p, kv.1, rfl, ht, rfl, kV_is (P := X.prog) (w := X.w) ru⟩
    | succ j =>
      obtain ⟨b, kk, h1, h2, h3, h4⟩ := hp j k v (by simpa using e)
      exact ⟨b, kk, by simpa using h1, h2, by simpa using h3, h4⟩
/-- dict(t) of a plain tuple of pairs -/
theorem call_dictTu (hcalm : X.calm = true) : CallR X (.type "dict") (fun xs H Q => ∃ (a : Addr) (ps : List Addr) (kvs : List (Key × V)), xs = [.ref a] ∧ PlT X.K H a (ps.map V.ref) ∧ Paired (fun p kv => SqT X.K H p [kV kv.1, kv.2]) ps kvs ∧
    ∀ p, H p = none → Q (.ref p) (upd H p (.dK (mergeK [] kvs)))) := by
  rintro pins s σ H xs us Q I r ⟨a, ps, kvs, rfl, hq, hp, q⟩
  obtain ⟨u, rfl, rx⟩ := vals1 r
  cases rx
  obtain ⟨prs, pv, rel, hl, hl2, hpr⟩ := pairs_at I hp
  have hz0 : SqT X.K H a (ps.map V.ref) := by
    rcases hq with ⟨o, h1, _⟩ | ⟨o, its, n, h1, h2, _, h3⟩
    · exact .inl (.inr ⟨o, h1⟩)
    · exact .inr ⟨o, its, n, h1, h2, h3⟩
  obtain ⟨its, rv, pl, hz⟩ := I.tuple hz0
  have ei := refs_at rv
  subst ei
  rw [List.length_map] at hz
  have pls : PlainSeq "tuple" s.heap a (ps.map Value.ref).toArray := by
    rcases hq with ⟨o, h1, h2⟩ | ⟨o, its, n, h1, h2, h4, h3, h5, h6⟩
    · obtain ⟨g1, _, its2, rv2, o2, g2, g3, n, g4⟩ := (show ObjOk X.prog X.w H s.heap a (.frz o (.tup (ps.map V.ref))) from I.hok a _ h1)
      rw [g1] at g2
      cases g2
      rw [refs_at rv2] at g4
      exact ⟨o, n, g1, g3, h2, g4⟩
    · have g := I.kIn a o h1
      have e2 := refs_at h6
      refine ⟨o, n, g, h2, h4, ?_⟩
      rw [h3, ← e2]
  have PA' := PairArg.tuple (prog := X.prog) (w := X.w) a (ps.map Value.ref).toArray (fun j => ps.getD j 0) pv
  refine PySem.call_dict_pairs (knd := mixKind X.prog X.w) (kvs := prs) PA' (I.ok.hd hcalm) ⟨pls, by simp [hl2], fun j k v e => ?_⟩ ⟨by rw [hl, hl2], fun i k v e => ?_⟩ (by rw [hl2]; exact hz) fun h' tk hd' kp => ?_
  · obtain ⟨b, kk, h1, h2, h3, h4⟩ := hpr j k v e
    refine ⟨by simp [h1], .inl ?_⟩
    have e3 : ps.getD j 0 = b := by rw [List.getD_eq_getElem?_getD, h1]; rfl
    show s.heap.IsTuple (ps.getD j 0) #[k, v]
    rw [e3]
    exact h2
  · obtain ⟨b, kk, h1, h2, h3, h4⟩ := hpr i k v e
    exact ⟨kk, h3, h4⟩
  · have hm : (s.heap.objs.size == sysModules) = false := beq_eq_false_iff_ne.mpr (Nat.ne_of_gt I.big)
    have hlen : (mergeK [] kvs).length ≤ sizeLine := by
      have h1 := length_mergeK kvs []
      rw [List.length_nil, Nat.zero_add, rel.length, hl] at h1
      omega
    have ok : ObjOk X.prog X.w (upd H s.heap.objs.size (.dK (mergeK [] kvs))) h' s.heap.objs.size (.dK (mergeK [] kvs)) := ⟨hlen, hm, merged [] prs, KV.merge rel .nil, hd'⟩
    exact ⟨.ref s.heap.objs.size, _, I.laid (t' := tk) (fun b o e => kp b o (by simp) e) (Nat.le_refl _) ok, rfl, q _ (I.hok.fresh (Nat.le_refl _))⟩
/-! ### sets of texts -/
/-- the set of texts at a -/
def SetTO (w : World) (a : Addr) (S : Str → Bool) : HO := .ext fun h => ∃ n, n < 2001 ∧ ZT.SetT w h a S n
theorem setTO_new {w : World} {P : Program} {H : Hp} {h : Heap} {a : Addr} {S : Str → Bool} {n : Nat} (hn : n < 2001) (R : ZT.SetT w h a S n) : ObjOk P w H h a (SetTO w a S) := by
  have ⟨o, _, _, _, ho, _⟩ := R
  exact ⟨⟨n, hn, R⟩, ⟨o, ho⟩, fun h1 h2 ⟨m, hm, p⟩ k => ⟨m, hm, p.at k⟩⟩
/-- set(xs) of few texts -/
def rSetL' (X : Cx) : List V → Hp → VK → Prop := fun xs H Q => ∃ (a : Addr) (bs : List Str), xs = [.ref a] ∧ SqL X.K H a (bs.map V.str) ∧ bs.length < 2000 ∧ ∀ p, H p = none → Q (.ref p) (upd H p (SetTO X.w p fun j => decide (j ∈ bs)))
theorem call_setL (hc : X.calm = true) : CallR X (.type "set") (rSetL' X) := by
  rintro pins s σ H xs us Q I r ⟨a, bs, rfl, hq, hb, q⟩
  obtain ⟨u, rfl, rx⟩ := vals1 r
  cases rx
  obtain ⟨its, rv, pl, hz⟩ := I.list hq
  have hsb : 2001 < scanBound := by decide +kernel
  refine ZT.call_set_lstS (items := its.toArray) bs (I.ok.hd hc) pl.isList (by simpa using rv.strs) (by omega) fun h' tk c R hcl kp => ?_
  exact ⟨.ref s.heap.objs.size, _, I.laid (t' := tk) kp (Nat.le_refl _) (setTO_new (by omega) R), rfl, q _ (I.hok.fresh (Nat.le_refl _))⟩
theorem mem_dedup {y : Str} : ∀ {l : List Str}, y ∈ dedupStr l ↔ y ∈ l
  | [] => by rw [dedupStr]
  | x :: r => by
    rw [dedupStr]
    split
    · rename_i h
      rw [mem_dedup, List.mem_cons]
      exact ⟨.inr, fun z => z.elim (fun e => e ▸ h) id⟩
    · rw [List.mem_cons, List.mem_cons, mem_dedup]
theorem nodup_dedup : ∀ l : List Str, (dedupStr l).Nodup
  | [] => by rw [dedupStr]; exact .nil
  | x :: r => by
    rw [dedupStr]
    split
    · exact nodup_dedup r
    · rename_i h
      exact List.nodup_cons.mpr ⟨fun z => h (mem_dedup.mp z), nodup_dedup r⟩
/-- sorted(found) -/
def rSortT' (X : Cx) : List V → Hp → VK → Prop := fun xs H Q => ∃ (a : Addr) (bs : List Str), xs = [.ref a] ∧ H a = some (SetTO X.w a fun j => decide (j ∈ bs)) ∧ bs.length < 2001 ∧ ∀ p, H p = none → Q (.ref p) (upd H p (.lst ((sortStr (dedupStr bs)).map V.str)))
theorem call_sortedSetT (hc : X.calm = true) : CallR X (.builtin "sorted") (rSortT' X) := by
  rintro pins s σ H xs us Q I r ⟨a, bs, rfl, ha, hb, q⟩
  obtain ⟨u, rfl, rx⟩ := vals1 r
  cases rx
  obtain ⟨⟨n, hn, R⟩, _, _⟩ := (show ObjOk X.prog X.w H s.heap a (SetTO X.w a fun j => decide (j ∈ bs)) from I.hok a _ ha)
  refine ZT.sorted_setT2 R (I.ok.hd hc) hn fun s' p out c ns kp g o hp hg hi hs nd hm => ?_
  have e : ns = sortStr (dedupStr bs) := sortStr_one ((List.perm_ext_iff_of_nodup nd (nodup_dedup bs)).mpr fun k => by rw [hm k, decide_eq_true_eq, mem_dedup]) hs
  have hlen : (ns.map V.str).length ≤ sizeLine := by
    have h4 : ∀ l : List Str, (dedupStr l).length ≤ l.length := by
      intro l
      induction l with
      | nil => exact Nat.le_refl _
      | cons y r ih => rw [dedupStr]; split <;> simp only [List.length_cons] <;> omega
    have h5 := h4 bs
    rw [List.length_map, e, (sortStr_perm _).length_eq, sizeLine_eq]
    omega
  have hf := I.hok.fresh hp
  have J : Inv X pins σ (upd H p (.lst (ns.map V.str))) { s with heap := s'.heap, gens := s'.gens, drawn := s'.drawn, toks := s'.toks } := by
    refine I.call (ch := []) (Un.laid kp hp hf) ?_ ?_ ?_
    · exact I.hok.laid kp hp ⟨hlen, out.toList, c, vals_of_strs hi, hg⟩
    · rw [g]; exact I.bare
    · intro b hb; cases hb
  have e2 : s' = { s with heap := s'.heap, gens := s'.gens, drawn := s'.drawn, toks := s'.toks } := by
    obtain ⟨h', g2, d', tk', os'⟩ := s'
    cases o
    rfl
  rw [e2]
  exact ⟨.ref p, _, J, rfl, by rw [e]; exact q p hf⟩
/-- sorted(set(xs)) of a list of texts -/
theorem pe_sset {a : Expr} {ta : TE} {p p2 q pos : Pos} (hc : X.calm = true) (hg : Gl X "sorted") (hm : X.mg "sorted" = none) (hg2 : Gl X "set") (hm2 : X.mg "set" = none) (ha : PE X a ta) (hs : starEach [a] X.env = (false, eval a X.env) :: starEach [] X.env) :
    PE X (.Call (.Name "sorted" p) [.Call (.Name "set" p2) [a] [] q] [] pos) (fun σ H Q => ta σ H fun x H1 => rSetL' X [x] H1 fun y H2 => rSortT' X [y] H2 Q) :=
  pe_callB (p := p) (pos := pos) (call_sortedSetT hc) hg hm rfl (pa_cons (pe_callTy (p := p2) (pos := q) (call_setL hc) hg2 hm2 rfl (pa_cons ha pa_nil hs) (by decide) (by decide) hs rfl) pa_nil) (by decide) (by decide)
theorem sset_go {H1 : Hp} {x : V} {Q : VK} {l : Addr} {bs : List Str} (hx : x = .ref l) (hs : SqL X.K H1 l (bs.map V.str)) (hl : bs.length < 2000)
    (h : ∀ (H2 : Hp) (r : Addr), (∀ b o, H1 b = some o → H2 b = some o) → H2 r = none → Q (.ref r) (upd H2 r (.lst ((sortStr (dedupStr bs)).map V.str)))) : rSetL' X [x] H1 fun y H2 => rSortT' X [y] H2 Q := by
  subst hx
  refine ⟨l, bs, rfl, hs, hl, fun p hp => ⟨p, bs, rfl, upd_same, by omega, fun r hr => h _ r (fun b o hb => ?_) hr⟩⟩
  rw [upd_ne (ne_of_none hb hp)]
  exact hb
end
end Z


/-! Zy: dict(zip(keys, values)). -/
namespace Z
open PySem L2 PySem.Spec PyProof.Rows
section
variable {X : Cx}
/-- keys beside what stands for them, as the heap has them -/
theorem zip_at (Pg : Program) (wd : World) : ∀ {ks : List Key} {ys : List V} {us ws : List Value}, Vals (ks.map kV) us → Vals ys ws →
    ∃ prs : List (Key × Value), KV (ks.zip ys) prs ∧ prs.length = min us.length ws.length ∧ ∀ (i : Nat) (k v : Value), us[i]? = some k → ws[i]? = some v → ∃ kk, prs[i]? = some (kk, v) ∧ keyIs kk k = true
  | [], ys, us, ws, r1, r2 => by
    cases r1
    exact ⟨[], .nil, by simp, fun i k v e => by simp at e⟩
  | kk :: ks, [], us, ws, r1, r2 => by
    cases r2
    exact ⟨[], .nil, by simp, fun i k v _ e => by simp at e⟩
  | kk :: ks, y :: ys, us, ws, r1, r2 => by
    rw [List.map_cons] at r1
    cases r1 with
    | cons h t =>
      cases r2 with
      | @cons _ w0 _ ws0 h2 t2 =>
        obtain ⟨prs, a1, a2, a3⟩ := zip_at Pg wd t t2
        refine ⟨(kk, w0) :: prs, .cons ⟨rfl, h2⟩ a1, by simp [a2], fun i k v e e2 => ?_⟩
        cases i with
        | zero =>
          simp at e e2
          subst e e2
          exact ⟨kk, rfl, kV_is (P := Pg) (w := wd) h⟩
        | succ i =>
          obtain ⟨k2, b1, b2⟩ := a3 i k v (by simpa using e) (by simpa using e2)
          exact ⟨k2, by simpa using b1, b2⟩
def rDz (K : PySem.W.Frag) : List V → Hp → VK → Prop := fun vs H Q => ∃ (a b : Addr) (ks : List Key) (ys : List V), vs = [.ref a, .ref b] ∧ SqL K H a (ks.map kV) ∧ SqL K H b ys ∧ ∀ p, H p = none → Q (.ref p) (upd H p (.dK (mergeK [] (ks.zip ys))))
theorem pe_dictzip {e e2 : Expr} {ta : TA} {p p2 q pos : Pos} (hc : X.calm = true) (hg : Gl X "dict") (hm : X.mg "dict" = none) (hg2 : Gl X "zip") (hm2 : X.mg "zip" = none) (ha : PA X [e, e2] ta)
    (hs : starEach [e, e2] X.env = (false, eval e X.env) :: starEach [e2] X.env) (hpl : (backTo q (starEach [e2] X.env)).any (·.1) = false) :
    PE X (.Call (.Name "dict" p) [.Call (.Name "zip" p2) [e, e2] [] q] [] pos) (fun σ H Q => ta σ H fun vs H1 => rDz X.K vs H1 Q) := by
  refine ⟨fun pins s σ H Q I h => ?_⟩
  refine wpAny_Call_Name_kw (ld_blt I hg hm rfl (PyProof.Rows.callWith_type1 ?_ (by rfl) (by rfl)) (by decide) (by decide))
  show wpAny _ _ (spliced ((false, eval (.Call (.Name "zip" p2) [e, e2] [] q) X.env) :: [])) _ _ s
  refine Calls.spliced_cons ?_
  refine wpAny_Call_Name_kw (ld_blt I hg2 hm2 rfl (PyProof.Rows.callWith_type1 (thn (ha.run q pins s σ H _ I h) fun us s1 ⟨vs, H1, I1, r1, q1⟩ => ?_) hs hpl) (by decide) (by decide))
  obtain ⟨a, b, ks, ys, rfl, hqx, hqy, qq⟩ := q1
  cases r1 with
  | cons r rr =>
    cases rr with
    | cons r' rr =>
      cases rr
      cases r
      cases r'
      obtain ⟨its, rv, pl1, hz1⟩ := I1.list hqx
      obtain ⟨its2, rv2, pl2, hz2⟩ := I1.list hqy
      have la : a < s1.heap.objs.size := pl1.lt
      have lb : b < s1.heap.objs.size := pl2.lt
      refine call_zip_2 pl1.isList pl2.isList fun h' hz hTI hTO h1 h2 hsz hk => Calls.spliced_nil ?_
      obtain ⟨prs, kv, kl, kr⟩ := zip_at X.prog X.w rv rv2
      have D := PySem.W.ktu_apart s1.heap.objs.size a b la lb
      have P := PairArg.zip (prog := X.prog) (w := X.w) _ _ _ _ _ _ _ D its.toArray its2.toArray
      have hz3 : its.length ≤ sizeLine := by rw [← rv.length]; exact hz1
      refine PySem.call_dict_pairs (s := { s1 with heap := h' }) (knd := mixKind X.prog X.w) (kvs := prs) P (I1.ok.hd hc) ⟨hz, hTI, ⟨_, _, hTO⟩, h1, h2, pl1.isList.at fun o e => hk _ o e, pl2.isList.at fun o e => hk _ o e⟩ ⟨by rw [kl]; simp, fun i k v e => ?_⟩ ?_ fun h2 tk hd' kp => ?_
      · obtain ⟨ea, eb⟩ := e
        exact kr i k v (by simpa using ea) (by simpa using eb)
      · exact Nat.le_trans (Nat.min_le_left _ _) (by simpa using hz3)
      · have hm : (h'.objs.size == sysModules) = false := beq_eq_false_iff_ne.mpr (Nat.ne_of_gt (by have := I1.big; rw [hsz]; exact Nat.lt_of_lt_of_le this (Nat.le_add_right _ _)))
        have hlen : (mergeK [] (ks.zip ys)).length ≤ sizeLine := by
          have h3 := length_mergeK (ks.zip ys) []
          rw [List.length_nil, Nat.zero_add, kv.length, kl] at h3
          have h4 : min its.length its2.length ≤ its.length := Nat.min_le_left _ _
          omega
        have kp2 : ∀ b o, s1.heap.get? b = some o → h2.get? b = some o := fun b o e => by
          have hb := Heap.lt_size e
          refine kp b o (fun hm => ?_) (hk b o e)
          simp only [List.mem_cons, List.not_mem_nil, or_false] at hm
          rcases hm with hm | hm | hm | hm <;> (rw [hm] at hb; exact absurd hb (Nat.not_lt.mpr (by omega)))
        have ok : ObjOk X.prog X.w (upd H1 h'.objs.size (.dK (mergeK [] (ks.zip ys)))) h2 h'.objs.size (.dK (mergeK [] (ks.zip ys))) := ⟨hlen, hm, merged [] prs, KV.merge kv .nil, hd'⟩
        have hp : s1.heap.objs.size ≤ h'.objs.size := by omega
        exact ⟨.ref h'.objs.size, _, I1.laid (t' := tk) kp2 hp ok, rfl, qq _ (I1.hok.fresh hp)⟩
end
end Z


/-! Zp: sorted(list of pairs of a text and a number). -/
namespace Z
open PySem L2 PySem.Spec PyProof.Rows
theorem lexS_iff {p q : Str × Int} : lexS p q = true ↔ ltStr p.1 q.1 = true ∨ (p.1 = q.1 ∧ p.2 < q.2) := by
  unfold lexS
  by_cases e : p.1 = q.1
  · rw [if_pos e, decide_eq_true_eq, e, ltStr_irr]
    simp
  · rw [if_neg e]
    simp [e]
theorem lexS_no {p q : Str × Int} : lexS p q = false ↔ ¬ (ltStr p.1 q.1 = true ∨ (p.1 = q.1 ∧ p.2 < q.2)) := by
  rw [← lexS_iff]
  cases lexS p q <;> simp
theorem str_cases (x y : Str) : ltStr x y = true ∨ x = y ∨ ltStr y x = true := by
  cases h1 : ltStr x y with
  | true => exact .inl rfl
  | false =>
    cases h2 : ltStr y x with
    | true => exact .inr (.inr rfl)
    | false => exact .inr (.inl (ltStr_tri h1 h2))
theorem lexS_swo {α : Type} (k : α → Str × Int) : SrtO.Swo fun v u => lexS (k v) (k u) := by
  refine ⟨fun x y h => ?_, fun x y z h1 h2 => ?_⟩
  · rw [lexS_no]
    rintro (h3 | ⟨h3, h4⟩)
    · rcases lexS_iff.mp h with h5 | ⟨h5, h6⟩
      · rw [ltStr_asym h5] at h3; cases h3
      · rw [h5, ltStr_irr] at h3; cases h3
    · rcases lexS_iff.mp h with h5 | ⟨h5, h6⟩
      · rw [h3, ltStr_irr] at h5; cases h5
      · omega
  · rw [lexS_no] at h1 h2 ⊢
    have a1 : ¬ ltStr (k y).1 (k x).1 = true := fun e => h1 (.inl e)
    have a2 : ¬ ltStr (k z).1 (k y).1 = true := fun e => h2 (.inl e)
    have b1 : (k y).1 = (k x).1 → ¬ (k y).2 < (k x).2 := fun e l => h1 (.inr ⟨e, l⟩)
    have b2 : (k z).1 = (k y).1 → ¬ (k z).2 < (k y).2 := fun e l => h2 (.inr ⟨e, l⟩)
    rcases str_cases (k x).1 (k y).1 with c1 | c1 | c1
    · rcases str_cases (k y).1 (k z).1 with c2 | c2 | c2
      · have c3 := ltStr_trans c1 c2
        rintro (d | ⟨d, _⟩)
        · rw [ltStr_asym c3] at d; cases d
        · rw [d, ltStr_irr] at c3; cases c3
      · rw [c2] at c1
        rintro (d | ⟨d, _⟩)
        · rw [ltStr_asym c1] at d; cases d
        · rw [d, ltStr_irr] at c1; cases c1
      · exact absurd c2 a2
    · rcases str_cases (k y).1 (k z).1 with c2 | c2 | c2
      · rw [← c1] at c2
        rintro (d | ⟨d, _⟩)
        · rw [ltStr_asym c2] at d; cases d
        · rw [d, ltStr_irr] at c2; cases c2
      · have e1 := b1 c1.symm
        have e2 := b2 c2.symm
        rintro (d | ⟨_, d⟩)
        · rw [← c2, ← c1, ltStr_irr] at d; cases d
        · omega
      · exact absurd c2 a2
    · exact absurd c1 a1
section
variable {prog : Program} {w : World} {A : Around} {E : Value → Shared → Prop} {s : Shared}
/-- a tuple of a text and a number in the heap -/
def IsSI (h : Heap) (v : Value) (x : Str) (y : Int) : Prop := ∃ (a : Addr) (o : Obj) (t u : Tok) (n : Nat), v = .ref a ∧ h.get? a = some o ∧ o.cls = .type "tuple" ∧ o.data = .seq #[.str x t, .int y u] n
theorem IsSI.stays {h h' : Heap} {v : Value} {x : Str} {y : Int} (p : IsSI h v x y) (k : ∀ b o, h.get? b = some o → o.cls = .type "tuple" → h'.get? b = some o) : IsSI h' v x y := by
  obtain ⟨a, o, t, u, n, e, ho, hc, hd⟩ := p
  exact ⟨a, o, t, u, n, e, k _ _ ho hc, hc, hd⟩
theorem si_firsts {h : Heap} {k : Value → Str × Int} : ∀ {vs : List Value}, (∀ v ∈ vs, IsSI h v (k v).1 (k v).2) → ∃ fs : List Value, PySem.W.KatTups h vs fs ∧ fs.length = vs.length ∧ ∀ f ∈ fs, ∃ x t, f = Value.str x t
  | [], _ => ⟨[], PySem.W.KatTups.nil, rfl, fun _ hm => by simp at hm⟩
  | v :: vs, hp => by
    obtain ⟨fs, g1, g2, g3⟩ := si_firsts (vs := vs) fun v' hm => hp v' (List.mem_cons_of_mem _ hm)
    have hv := hp v List.mem_cons_self
    generalize (k v).1 = x at hv
    generalize (k v).2 = y at hv
    obtain ⟨a, o, t, u, n, rfl, ho, hc, hd⟩ := hv
    refine ⟨.str x t :: fs, PySem.W.KatTups.cons ho hc hd rfl g1, by simp [g2], fun f hm => ?_⟩
    rcases List.mem_cons.mp hm with rfl | hm
    · exact ⟨x, t, rfl⟩
    · exact g3 f hm
theorem si_cmp {vs : List Value} {k : Value → Str × Int} (hp : ∀ v ∈ vs, IsSI s.heap v (k v).1 (k v).2) : SrtO.Cmp prog w A s (tuples' true) (fun p => p.1 ∈ vs) (SrtO.lt2 fun v u => lexS (k v) (k u)) := by
  intro p q hm hm'
  have g1 := hp _ hm
  have g2 := hp _ hm'
  show wpAny (model prog w) A (keyLt' (tuples' true) p.1 q.1) (fun r s' => s' = s ∧ r = lexS (k p.1) (k q.1)) (fun _ _ => False) s
  unfold lexS
  generalize (k p.1).1 = x at g1 ⊢
  generalize (k p.1).2 = y at g1 ⊢
  generalize (k q.1).1 = x' at g2 ⊢
  generalize (k q.1).2 = y' at g2 ⊢
  obtain ⟨a, o, t, u, n, e, ho, hc, hd⟩ := g1
  obtain ⟨a', o', t', u', n', e', ho', hc', hd'⟩ := g2
  rw [e, e']
  refine PySem.W.kat_lt ho hd ho' hd' ?_
  show PySem.W.KatLex prog w A true (decide (2 < 2)) _ [(.str x t, .str x' t'), (.int y u, .int y' u')] 0 s
  refine PySem.W.kat_cons (SeqAt.EqAt.str_str x t x' t' prog w _ _ ?_)
  refine PySem.W.kat_go (fun e1 => ?_) (fun e1 => ?_)
  · have ex : x = x' := by simpa using e1
    rw [if_pos ex]
    refine PySem.W.kat_yes (PySem.W.kat_cons (SeqAt.EqAt.int_int y u y' u' prog w _ _ ?_))
    refine PySem.W.kat_go (fun e2 => ?_) (fun e2 => ?_)
    · have ey : y = y' := by simpa using e2
      exact PySem.W.kat_yes (PySem.W.kat_nil ⟨rfl, by rw [ey]; exact (decide_eq_false (Int.lt_irrefl _)).symm⟩)
    · refine PySem.W.kat_no (PySem.W.kat_one _ _ (PyProof.Rows.lt_int ?_))
      exact (show s = s ∧ decide (y < y') = decide (y < y') from ⟨rfl, rfl⟩)
  · have ex : ¬ x = x' := by simpa using e1
    rw [if_neg ex]
    exact PySem.W.kat_no (oneLt_str ⟨rfl, rfl⟩)
theorem si_sortable {a : Addr} {vs : List Value} {k : Value → Str × Int} (h0 : 0 < vs.length) (hp : ∀ v ∈ vs, IsSI s.heap v (k v).1 (k v).2) (ha : ∀ o, s.heap.get? a = some o → o.cls ≠ .type "tuple") : SrtO.SortableO prog w A s a vs fun v u => lexS (k v) (k u) := by
  intro h' keep
  have hp' : ∀ v ∈ vs, IsSI h' v (k v).1 (k v).2 := fun v hm => (hp v hm).stays fun b o e c => keep b o (fun z => by subst z; exact ha o e c) e
  obtain ⟨fs, g1, g2, g3⟩ := si_firsts hp'
  refine ⟨tuples' true, fun Q E hq => ?_, si_cmp hp'⟩
  refine PySem.W.kat_kind (T := .type "str") g1 (by omega) (fun f hm => ?_) (by rfl) ?_
  · obtain ⟨x, t, rfl⟩ := g3 f hm
    exact PySem.W.Looks.now
  · have e : (Value.type "str" != Value.type "tuple") = true := by decide +kernel
    rw [e]
    exact hq
end
theorem IsSI.one {h : Heap} {v : Value} {x x' : Str} {y y' : Int} (p : IsSI h v x y) (q : IsSI h v x' y') : x = x' ∧ y = y' := by
  obtain ⟨a, o, t, u, n, e, ho, _, hd⟩ := p
  obtain ⟨a', o', t', u', n', e', ho', _, hd'⟩ := q
  rw [e] at e'
  cases e'
  rw [ho] at ho'
  cases ho'
  rw [hd] at hd'
  cases hd'
  exact ⟨rfl, rfl⟩
def rSrtP (K : PySem.W.Frag) : List V → Hp → VK → Prop := fun vs H Q => ∃ (l : Addr) (xs : List V) (ps : List (Str × Int)), vs = [.ref l] ∧ SqL K H l xs ∧ Paired (fun x p => ∃ t, x = V.ref t ∧ SqT K H t [.str p.1, .int p.2]) xs ps ∧
  ∀ (zs : List (V × Str × Int)) (b : Addr), zs.Perm (xs.zip ps) → SrtO.Srtd lexS (zs.map (·.2)) → H b = none → Q (.ref b) (upd H b (.lst (zs.map (·.1))))
section
variable {X : Cx}
open Classical in
noncomputable def siK (h : Heap) (v : Value) : Str × Int := if e : ∃ p : Str × Int, IsSI h v p.1 p.2 then Classical.choose e else ("", 0)
theorem siK_of {h : Heap} {v : Value} {p : Str × Int} (i : IsSI h v p.1 p.2) : siK h v = p := by
  have e : ∃ p : Str × Int, IsSI h v p.1 p.2 := ⟨p, i⟩
  unfold siK
  rw [dif_pos e]
  obtain ⟨a, b⟩ := (Classical.choose_spec e).one i
  exact Prod.ext a b
theorem si_all {pins : List (Addr × Obj)} {s : Shared} {σ : L2.St} {H : Hp} (I : Inv X pins σ H s) : ∀ {xs : List V} {ps : List (Str × Int)} {its : List Value}, Paired (fun x p => ∃ t, x = V.ref t ∧ SqT X.K H t [.str p.1, .int p.2]) xs ps → Vals xs its →
    (∀ v ∈ its, ∃ p : Str × Int, IsSI s.heap v p.1 p.2) ∧ its.map (fun v => (backV v, siK s.heap v)) = xs.zip ps
  | _, _, _, .nil, r => by cases r; exact ⟨(fun _ h => by cases h), rfl⟩
  | _, _, _, .cons (a := x) (b := p) h t, r => by
    cases r with
    | cons rx rr =>
      obtain ⟨g1, g2⟩ := si_all I t rr
      obtain ⟨ad, rfl, hq⟩ := h
      cases rx
      obtain ⟨its2, r2, ht, _⟩ := I.tuple hq
      obtain ⟨u1, u2, rfl, ri, rj⟩ := vals2 r2
      obtain ⟨t1, rfl⟩ := ri
      obtain ⟨t2, rfl⟩ := rj
      obtain ⟨o, ho, hc, n, hd⟩ := ht
      have hi : IsSI s.heap (.ref ad) p.1 p.2 := ⟨ad, o, t1, t2, n, rfl, ho, hc, hd⟩
      refine ⟨fun v hv => ?_, ?_⟩
      · rcases List.mem_cons.mp hv with rfl | hv
        · exact ⟨p, hi⟩
        · exact g1 v hv
      · rw [List.map_cons, List.zip_cons_cons, g2, siK_of hi]
        rfl
theorem cr_srtP : CallR X (.builtin "sorted") (rSrtP X.K) := by
  rintro pins s σ H vs us Q I r ⟨l, xs, ps, rfl, hs, hp, q⟩
  obtain ⟨its, rv, hl, hz⟩ := I.list hs
  rw [Vals.ref1 r]
  obtain ⟨g1, g2⟩ := si_all I hp rv
  have hz2 : its.length ≤ sizeLine := by rw [← rv.length]; exact hz
  have hk : ∀ v ∈ its, IsSI s.heap v (siK s.heap v).1 (siK s.heap v).2 := fun v hv => by
    obtain ⟨p, hi⟩ := g1 v hv
    rw [siK_of hi]
    exact hi
  refine SrtO.sorted_ord (lexS_swo (siK s.heap)) hl.isList hz2 (fun h2 h1 a ha kk => ?_) fun out os ob => ?_
  · refine si_sortable (s := { s with heap := h1 }) (k := siK s.heap) (by omega) (fun v hv => (hk v hv).stays fun b o e _ => (kk b o e).2) fun o e c => ?_
    have e' : some o = some (seqObj "list" its.toArray 0) := e.symm.trans ha
    cases e'
    exact absurd (Value.type.inj c) (by decide)
  · have h3 : ∀ u ∈ out, ∃ a, u = Value.ref a := fun u hu => by
      obtain ⟨p, a, o, t, u', n, e, _⟩ := g1 u (ob.perm.mem_iff.mp hu)
      exact ⟨a, e⟩
    obtain ⟨n, hn⟩ := sortedAll_at s.heap its out.toArray
    have hlen : (out.map backV).length ≤ sizeLine := by rw [List.length_map, ob.perm.length_eq]; exact hz2
    have J := I.laid (t' := s.toks) (o := .lst (out.map backV)) (fun b o e => sortedAll_old e) (Nat.le_succ _) (show ObjOk X.prog X.w _ _ _ (.lst (out.map backV)) from ⟨hlen, out, n, vals_back h3, hn⟩)
    refine ⟨.ref _, _, J, rfl, ?_⟩
    have e1 : (out.map fun v => (backV v, siK s.heap v)).map (·.1) = out.map backV := by rw [List.map_map]; rfl
    have e2 : (out.map fun v => (backV v, siK s.heap v)).map (·.2) = out.map (siK s.heap) := by rw [List.map_map]; rfl
    rw [← e1]
    refine q _ _ ?_ ?_ (I.hok.fresh (Nat.le_succ _))
    · rw [← g2]
      exact ob.perm.map _
    · rw [e2]
      exact List.pairwise_map.mpr os
end
theorem insP_perm (x : Str × Int) : ∀ l : List (Str × Int), (insP x l).Perm (x :: l)
  | [] => .refl _
  | y :: r => by
    unfold insP
    split
    · exact ((insP_perm x r).cons y).trans (List.Perm.swap x y r)
    · exact .refl _
theorem sortP_perm : ∀ l : List (Str × Int), (sortP l).Perm l
  | [] => .refl _
  | x :: r => (insP_perm x (sortP r)).trans ((sortP_perm r).cons x)
theorem insP_sorted (x : Str × Int) : ∀ {l : List (Str × Int)}, SrtO.Srtd lexS l → SrtO.Srtd lexS (insP x l)
  | [], _ => List.pairwise_singleton _ _
  | y :: r, h => by
    have O := lexS_swo (fun p : Str × Int => p)
    obtain ⟨h1, h2⟩ := List.pairwise_cons.mp h
    unfold insP
    split
    · rename_i e
      refine List.pairwise_cons.mpr ⟨fun z hz => ?_, insP_sorted x h2⟩
      rcases List.mem_cons.mp ((insP_perm x r).mem_iff.mp hz) with rfl | hz
      · exact O.asym _ _ e
      · exact h1 z hz
    · rename_i e
      have e : lexS y x = false := by simpa using e
      refine List.pairwise_cons.mpr ⟨fun z hz => ?_, h⟩
      rcases List.mem_cons.mp hz with rfl | hz
      · exact e
      · exact O.tr x y z e (h1 z hz)
theorem sortP_sorted : ∀ l : List (Str × Int), SrtO.Srtd lexS (sortP l)
  | [] => .nil
  | x :: r => insP_sorted x (sortP_sorted r)
theorem lexS_tri {p q : Str × Int} (h1 : lexS p q = false) (h2 : lexS q p = false) : p = q := by
  rw [lexS_no] at h1 h2
  rcases str_cases p.1 q.1 with c | c | c
  · exact absurd (.inl c) h1
  · have a : ¬ p.2 < q.2 := fun l => h1 (.inr ⟨c, l⟩)
    have b : ¬ q.2 < p.2 := fun l => h2 (.inr ⟨c.symm, l⟩)
    exact Prod.ext c (by omega)
  · exact absurd (.inl c) h2
theorem sortedP_one : ∀ {l m : List (Str × Int)}, SrtO.Srtd lexS l → SrtO.Srtd lexS m → l.Perm m → l = m
  | [], m, _, _, p => by simpa using p.symm
  | x :: l, [], _, _, p => by simpa using p
  | x :: l, y :: m, h1, h2, p => by
    obtain ⟨a1, a2⟩ := List.pairwise_cons.mp h1
    obtain ⟨b1, b2⟩ := List.pairwise_cons.mp h2
    have e : x = y := by
      have hx : x ∈ y :: m := p.mem_iff.mp List.mem_cons_self
      have hy : y ∈ x :: l := p.mem_iff.mpr List.mem_cons_self
      rcases List.mem_cons.mp hx with rfl | hx
      · rfl
      · rcases List.mem_cons.mp hy with rfl | hy
        · rfl
        · exact lexS_tri (b1 x hx) (a1 y hy)
    subst e
    rw [sortedP_one a2 b2 (List.Perm.cons_inv p)]
theorem sortP_one {xs ys : List (Str × Int)} (p : ys.Perm xs) (h : SrtO.Srtd lexS ys) : ys = sortP xs := sortedP_one h (sortP_sorted xs) (p.trans (sortP_perm xs).symm)
section
variable {K : PySem.W.Frag} {H : Hp} {al : Addr → Prop} {ρ : Pl}
/-- pairs, as they are represented -/
theorem prsS_rd : ∀ {ds : List D} {vs : List V} {ps : List (Str × Int)}, RDs K H al ρ ds vs → prsS ds = some ps → ds = ps.map prS ∧ Paired (fun x p => ∃ t, x = V.ref t ∧ SqT K H t [.str p.1, .int p.2]) vs ps ∧ ∀ z ∈ vs.zip ps, RD K H al ρ (prS z.2) z.1
  | _, _, ps, .nil, e => by
    cases e
    exact ⟨rfl, .nil, (fun _ h => by cases h)⟩
  | _, _, ps, @RDs.cons _ _ _ _ d ds v vs h r, e => by
    have key : ∀ (x : Str) (i : Int), d = .tup [.str x, .int i] → ∃ qs, prsS ds = some qs ∧ ps = (x, i) :: qs := by
      rintro x i rfl
      have e : (prsS ds).map ((x, i) :: ·) = some ps := e
      cases q : prsS ds with
      | none => rw [q] at e; cases e
      | some qs => rw [q] at e; cases e; exact ⟨qs, rfl, rfl⟩
    have shape : ∃ (x : Str) (i : Int), d = .tup [.str x, .int i] := by
      unfold prsS at e
      split at e
      · rename_i hh; cases hh
      · rename_i x i _ hh; cases hh; exact ⟨x, i, rfl⟩
      · cases e
    obtain ⟨x, i, hd⟩ := shape
    obtain ⟨qs, e2, rfl⟩ := key x i hd
    subst hd
    obtain ⟨g1, g2, g3⟩ := prsS_rd r e2
    obtain ⟨t, us, rfl, k1, _, k3⟩ := h.tup_inv
    obtain ⟨u, w, rfl, ku, kw⟩ := k3.two
    rw [ku.str_inv, kw.int_inv] at k1
    refine ⟨by rw [g1]; rfl, .cons ⟨t, rfl, k1⟩ g2, fun z hz => ?_⟩
    rw [List.zip_cons_cons] at hz
    rcases List.mem_cons.mp hz with rfl | hz
    · exact h
    · exact g3 z hz
theorem prs_back : ∀ {zs : List (V × Str × Int)}, (∀ z ∈ zs, RD K H al ρ (prS z.2) z.1) → RDs K H al ρ ((zs.map (·.2)).map prS) (zs.map (·.1))
  | [], _ => .nil
  | z :: r, h => .cons (h z List.mem_cons_self) (prs_back fun y hy => h y (List.mem_cons_of_mem _ hy))
theorem keysL_rd : ∀ {ds : List D} {vs : List V} {ks : List Key}, RDs K H al ρ ds vs → keysL ds = some ks → vs = ks.map kV
  | _, _, ks, .nil, e => by cases e; rfl
  | _, _, ks, @RDs.cons _ _ _ _ d ds v vs h r, e => by
    unfold keysL at e
    split at e
    · rename_i hh; cases hh
    · rename_i x _ hh
      cases hh
      cases q : keysL ds with
      | none => rw [q] at e; cases e
      | some qs =>
        rw [q] at e
        cases e
        rw [List.map_cons, ← keysL_rd r q, h.str_inv]; rfl
    · rename_i x _ hh
      cases hh
      cases q : keysL ds with
      | none => rw [q] at e; cases e
      | some qs =>
        rw [q] at e
        cases e
        rw [List.map_cons, ← keysL_rd r q, h.int_inv]; rfl
    · cases e
theorem zip_rks : ∀ {ks : List Key} {ds : List D} {vs : List V}, RDs K H al ρ ds vs → RKs K H al ρ (ks.zip ds) (ks.zip vs)
  | [], _, _, _ => .nil
  | _ :: _, _, _, .nil => .nil
  | _ :: _, _, _, .cons h r => .cons h (zip_rks r)
end
end Z


/-! Zi: list(d.items()). -/
namespace Z
open PySem L2 PySem.Spec PyProof.Rows
section
variable {X : Cx}
/-- several new objects laid and tracked at once -/
theorem laidMany {pins : List (Addr × Obj)} {σ : L2.St} {H : Hp} {s : Shared} {h' : Heap} {t' : Nat} (I : Inv X pins σ H s) (k : ∀ b u, s.heap.get? b = some u → h'.get? b = some u) {H' : Hp}
    (h1 : ∀ b, b < s.heap.objs.size → H' b = H b) (h2 : ∀ b o, H' b = some o → s.heap.objs.size ≤ b → ObjOk X.prog X.w H' h' b o) : Inv X pins σ H' { s with heap := h', toks := t' } := by
  have old : ∀ b o, H b = some o → H' b = some o := fun b o e => by rw [h1 b (I.hok.lt e)]; exact e
  refine I.un (t' := t') ⟨fun b o e _ _ _ => k b o e, fun b o e _ _ _ => ⟨o.slots, k b o e⟩, fun b o e n _ => by rw [h1 b (Heap.lt_size e)]; exact n, fun b o e _ => ⟨o, k b o e⟩, fun b xs e => old b _ e, fun b o u e => old b _ e, fun b ps e => ⟨#[], by rw [old b _ e]; simp⟩⟩ fun b o e => ?_
  by_cases hb : b < s.heap.objs.size
  · rw [h1 b hb] at e
    exact (I.hok b o e).stay (fun c u _ q => k c u q) (fun c q => old c _ q) fun c xs q => old c _ q
  · exact h2 b o e (Nat.le_of_not_lt hb)
def rItems (X : Cx) : V → Hp → VK → Prop := fun x H Q => ∃ (a : Addr) (kvs : List (Key × V)), x = .ref a ∧ H a = some (.dK kvs) ∧
  ∀ (H2 : Hp) (ps : List Addr) (p : Addr), (∀ b o, H b = some o → H2 b = some o) → Paired (fun q kv => TupF H2 q [kV kv.1, kv.2]) ps kvs → (∀ q ∈ ps, H q = none) → H2 p = none → Q (.ref p) (upd H2 p (.lst (ps.map V.ref)))
def tupO (k v : Value) : Obj := { cls := .type "tuple", data := .seq #[k, v] }

/-- what is new by the items -/
theorem items_lay {P : Program} {w : World} {h : Heap} : ∀ {as : List Addr} {kvs : List (Key × V)} {prs : List (Key × Value)}, KV kvs prs → as.length = prs.length →
    (∀ (j : Nat) (a : Addr), as[j]? = some a → ∃ key k x, prs[j]? = some (k, x) ∧ keyIs k key = true ∧ h.get? a = some (tupO key x)) → as.Pairwise (· < ·) →
    ∃ L : List (Addr × HO), L.map (·.1) = as ∧ (∀ q ∈ L, ∀ H', ObjOk P w H' h q.1 q.2) ∧ ∀ H2 : Hp, (∀ q ∈ L, H2 q.1 = some q.2) → Paired (fun q kv => TupF H2 q [kV kv.1, kv.2]) as kvs
  | [], _, _, .nil, _, _, _ => ⟨[], rfl, (fun _ h => nomatch h), fun _ _ => .nil⟩
  | [], _, _, .cons _ _, hl, _, _ => by simp at hl
  | _ :: _, _, _, .nil, hl, _, _ => by simp at hl
  | a :: as, (k, v) :: kvs, (k', x) :: prs, .cons ⟨hk, hv⟩ r, hl, hp, hw => by
    obtain ⟨L, g1, g2, g3⟩ := items_lay (P := P) (w := w) r (by simpa using hl) (fun j b hj => by
      obtain ⟨key, kk, y, e1, e2, e3⟩ := hp (j + 1) b (by simpa using hj)
      exact ⟨key, kk, y, by simpa using e1, e2, e3⟩) (List.pairwise_cons.mp hw).2
    obtain ⟨key, kk, y, e1, e2, e3⟩ := hp 0 a rfl
    simp only [List.getElem?_cons_zero, Option.some.injEq, Prod.mk.injEq] at e1
    obtain ⟨rfl, rfl⟩ := e1
    simp only at hk hv
    subst hk
    refine ⟨(a, .frz (tupO key x) (.tup [kV k, v])) :: L, by rw [List.map_cons, g1], fun q hq => ?_, fun H2 h2 => .cons ⟨tupO key x, h2 _ List.mem_cons_self, rfl⟩ (g3 H2 fun q hq => h2 q (List.mem_cons_of_mem _ hq))⟩
    rcases List.mem_cons.mp hq with rfl | hq
    · intro H'
      refine ⟨e3, by rw [sizeLine_eq]; simp, [key, x], .cons (keyIs_rel e2) (.cons hv .nil), ?_⟩
      exact ⟨_, e3, rfl, _, rfl⟩
    · exact g2 q hq
theorem lookup_mem {α : Type} : ∀ {L : List (Addr × α)} {b : Addr} {o : α}, L.lookup b = some o → (b, o) ∈ L
  | [], _, _, h => by cases h
  | (a, u) :: L, b, o, h => by
    rw [List.lookup_cons] at h
    split at h
    · rename_i e
      have : b = a := by simpa using e
      subst this
      cases h
      exact List.mem_cons_self
    · exact List.mem_cons_of_mem _ (lookup_mem h)
theorem mem_lookup {α : Type} : ∀ {L : List (Addr × α)} {b : Addr} {o : α}, (L.map (·.1)).Pairwise (· < ·) → (b, o) ∈ L → L.lookup b = some o
  | (a, u) :: L, b, o, h, hm => by
    rw [List.map_cons, List.pairwise_cons] at h
    rw [List.lookup_cons]
    rcases List.mem_cons.mp hm with e | hm
    · cases e; simp
    · have hlt := h.1 b (List.mem_map.mpr ⟨_, hm, rfl⟩)
      rw [show (b == a) = false from by simp; exact fun z => absurd (z ▸ hlt) (Nat.lt_irrefl _)]
      exact mem_lookup h.2 hm
theorem vals_refsA : ∀ as : List Addr, Vals (as.map V.ref) (as.map Value.ref)
  | [] => .nil
  | _ :: r => .cons rfl (vals_refsA r)
theorem pe_listItems {o : Expr} {to : TE} {apos cpos p pos : Pos} (hc : X.calm = true) (hg : Gl X "list") (hm : X.mg "list" = none) (ho : PE X o to) (hbase : attributeBase o "items" X.env (eval o X.env) = eval o X.env) (hline : (apos.endLine == cpos.line) = true) :
    PE X (.Call (.Name "list" p) [.Call (.Attribute o "items" apos) [] [] cpos] [] pos) (fun σ H Q => to σ H fun x H1 => rItems X x H1 Q) := by
  refine ⟨fun pins s σ H Q I h => ?_⟩
  refine Call_ (ld_blt I hg hm boot_list (PyProof.Rows.callWith_type1 (args_cons (Q := fun us s2 => wpAny (model X.prog X.w) X.A (call (.type "list") us) (EP X pins σ Q) X.xe s2) ?_ rfl) rfl))
  refine wpAny_Call_method0_late hbase hline (thn (ho.run pins s σ H _ I h) fun v s1 ⟨x, H1, I1, r1, a, kvs, ex, ha, q⟩ => ?_)
  subst ex
  obtain rfl : v = .ref a := r1
  obtain ⟨z, lo, prs, rel, dd⟩ := dk_rd I1.hok (.inl ha)
  obtain ⟨ep, hat⟩ := dd.dictAt
  refine ⟨"dict", "dict.items", PySem.F.plainAttrs_dict, PySem.F.slot_dict_items, PySem.F.type_dict_items, dd.typeIs, dd.mapOf.noDict, Calls.callWith_builtin rfl (PySem.evalArgs_none ?_)⟩
  refine call_meetsIn PySem.F.slot_dict_items dd.typeIs PySem.F.entry_dict_items (PySem.F.args_dict_items_1 _) (meets_dict_items (mixKind X.prog X.w) a lo) ⟨⟨prs, dd⟩, args_nil ?_⟩
  have hps : s1.heap.objs.size ≤ (s1.heap.push { cls := .type "dict_items", data := .fields #[.ref a] } : Heap).objs.size := by rw [Heap.size_push]; omega
  refine PySem.W.kdx_call (s := { s1 with heap := s1.heap.push { cls := .type "dict_items", data := .fields #[.ref a] } }) (I1.ok.hd hc) ⟨_, Heap.get?_push_size _ rfl, rfl, rfl⟩ (hat.push _) (by rw [← rel.length]; exact z) fun h' tk acc c as hk hS hl hG hacc => ?_
  dsimp only at hk hS hG
  have hk1 : ∀ b u, s1.heap.get? b = some u → h'.get? b = some u := fun b u e => hk b u (Heap.get?_push_of_some _ e)
  obtain ⟨L, g1, g2, g3⟩ := items_lay (P := X.prog) (w := X.w) rel hl hG.pairs hG.rise
  have hS0 : s1.heap.objs.size < (s1.heap.push { cls := .type "dict_items", data := .fields #[.ref a] } : Heap).objs.size := by rw [Heap.size_push]; omega
  generalize hSe : (s1.heap.push { cls := .type "dict_items", data := .fields #[.ref a] } : Heap).objs.size = S at hS hG hS0
  let H2 : Hp := fun b => match L.lookup b with
    | some u => some u
    | none => H1 b
  have up : ∀ {b : Addr} {u : HO}, L.lookup b = some u → S < b := fun {b u} e => hG.above b (by rw [← g1]; exact List.mem_map.mpr ⟨_, lookup_mem e, rfl⟩)
  have e1 : ∀ b, b ≤ S → H2 b = H1 b := fun b hb => by
    show (match L.lookup b with | some u => some u | none => H1 b) = _
    cases e : L.lookup b with
    | none => rfl
    | some u => exact absurd (up e) (Nat.not_lt.mpr hb)
  have hS2 : H2 S = none := by rw [e1 S (Nat.le_refl _)]; exact I1.hok.fresh (Nat.le_of_lt hS0)
  have hlen : (as.map V.ref).length ≤ sizeLine := by rw [List.length_map, hl, ← rel.length]; exact z
  have I2 : Inv X pins σ (upd H2 S (.lst (as.map V.ref))) { s1 with heap := h', toks := tk } := laidMany I1 hk1 (fun b hb => by rw [upd_ne (Nat.ne_of_lt (Nat.lt_trans hb hS0)), e1 b (Nat.le_of_lt (Nat.lt_trans hb hS0))]) fun b u e hb => by
    by_cases hbS : b = S
    · subst hbS
      rw [upd_same] at e
      cases e
      refine ⟨hlen, acc.toList, c, ?_, by rw [Array.toArray_toList]; exact hS⟩
      rw [hacc]
      exact vals_refsA as
    · rw [upd_ne hbS] at e
      cases e2 : L.lookup b with
      | some u2 =>
        have e3 : H2 b = some u2 := by show (match L.lookup b with | some u => some u | none => H1 b) = _; rw [e2]
        rw [e3] at e
        cases e
        exact g2 _ (lookup_mem e2) _
      | none =>
        have e3 : H2 b = H1 b := by show (match L.lookup b with | some u => some u | none => H1 b) = _; rw [e2]
        rw [e3, I1.hok.fresh hb] at e
        cases e
  refine ⟨.ref S, _, I2, rfl, q H2 as S (fun b u e => ?_) (g3 H2 fun q hq => ?_) (fun q hq => ?_) hS2⟩
  · rw [e1 b (Nat.le_of_lt (Nat.lt_trans (I1.hok.lt e) hS0))]; exact e
  · show (match L.lookup q.1 with | some u => some u | none => H1 q.1) = _
    rw [mem_lookup (b := q.1) (o := q.2) (by rw [g1]; exact hG.rise) hq]
  · exact I1.hok.fresh (Nat.le_of_lt (Nat.lt_trans hS0 (hG.above q hq)))
end
end Z


/-! Z5: built-in calls, methods, places, slices by values. -/
namespace Z
open PySem L2 PySem.Spec PyProof.Rows

/-! ### texts in order, however many -/
def rSrtL (K : PySem.W.Frag) : List V → Hp → VK → Prop := fun vs H Q => ∃ (l : Addr) (zs : List Str), vs = [V.ref l] ∧ zs.length ≤ sizeLine ∧ SqL K H l (zs.map V.str) ∧
  ∀ (ws : List Str) (b : Addr), sortedS ws = true → ws.Perm zs → H b = none → Q (.ref b) (upd H b (.lst (ws.map V.str)))
theorem cr_srtL {X : Cx} : CallR X (.builtin "sorted") (rSrtL X.K) := by
  rintro pins s σ H vs us Q I r ⟨l, zs, rfl, hz, hs, q⟩
  rw [Vals.ref1 r]
  obtain ⟨its, rv, hl, _⟩ := I.list hs
  have hn : its.length = zs.length := by rw [← rv.length, List.length_map]
  refine sorted_strsAny hl.isList rv.strs (by omega) fun out ws w1 w2 w3 => ?_
  obtain ⟨k, hk⟩ := sortedAll_at s.heap its out
  have I2 := I.laid (t' := s.toks) (o := .lst (ws.map V.str)) (fun _ _ => sortedAll_old) (Nat.le_succ _)
    (show ObjOk X.prog X.w _ _ _ (.lst (ws.map V.str)) from ⟨by rw [List.length_map, w2.length_eq]; exact hz, out.toList, k, vals_of_strs w1, hk⟩)
  exact ⟨.ref _, _, I2, rfl, q ws _ w3 w2 (I.hok.fresh (Nat.le_succ _))⟩
def rSrtD : List V → Hp → VK → Prop := fun vs H Q => ∃ (l : Addr) (zs : List (Key × V)) (ns : List Str), vs = [.ref l] ∧ ns.length ≤ sizeLine ∧ Rd H l (.dK zs) ∧ zs.map (·.1) = ns.map Sum.inr ∧
  ∀ (ws : List Str) (b : Addr), sortedS ws = true → ws.Perm ns → H b = none → Q (.ref b) (upd H b (.lst (ws.map V.str)))
theorem cr_srtD {X : Cx} (hc : X.calm = true) : CallR X (.builtin "sorted") rSrtD := by
  rintro pins s σ H vs us Q I r ⟨l, zs, ns, rfl, hz, hd, hks, q⟩
  rw [Vals.ref1 r]
  obtain ⟨z, lo, ws, rel, dd⟩ := dk_rd I.hok hd
  obtain ⟨k0, hat⟩ := dd.dictAt
  have hkeys : ws.map (·.1) = ns.map Sum.inr := by rw [← rel.keys]; exact hks
  have hl : ws.length = ns.length := by simpa using congrArg List.length hkeys
  refine Calls.call_function_entry kind_sorted plain_sorted entry_sorted (args_sorted1 _) (?_ : wpAny _ _ (Builtin.«sorted» _) _ _ _)
  rw [Builtin.«sorted»]
  refine wpAny_bind (m := checkCount "sorted" 1 1 _) (wpAny_pure (wpAny_bind (PySem.W.kdu_collect (A := X.A.in1) (PySem.W.kdl_dict (knd := mixKind X.prog X.w) (kvs := ws) (ep := k0) lo) (I.ok.hd hc) hat (by omega) fun h2 t2 acc hk hacc => ?_)))
  obtain ⟨ha1, ha2⟩ := hacc
  have hal : acc.toList.length = ns.length := by rw [Array.length_toList, ha1, hl]
  have hS : StrsAre acc.toList ns := by
    refine strs_at hal fun j v e => ?_
    obtain ⟨kk, x, e1, e2⟩ := ha2 j v (by rw [← Array.getElem?_toList]; exact e)
    have e3 : (ns.map Sum.inr)[j]? = some kk := by rw [← hkeys, List.getElem?_map, e1]; rfl
    rw [List.getElem?_map] at e3
    cases e4 : ns[j]? <;> rw [e4] at e3 <;> cases e3
    obtain ⟨t, ev⟩ := Value.isStrOf_shape (v := v) e2
    exact ⟨_, t, rfl, ev⟩
  have J : Inv X pins σ H { s with heap := h2, toks := t2 } := I.kept hk
  refine wpAny_bind (wpAny_newList (?_ : wpAny _ _ _ _ _ { s with heap := h2.push (seqObj "list" acc.toList.toArray 0), toks := t2 }) (by rw [hal]; exact hz))
  have hoL : (h2.push (seqObj "list" acc.toList.toArray 0)).get? h2.objs.size = some (seqObj "list" acc.toList.toArray 0) := Heap.get?_push_size _ rfl
  refine wpAny_bind (wpAny_holding (wpAny_call_entry slot_list_sort ⟨_, hoL, rfl⟩ entry_list_sort (list_sort_treeKAny strKind_oneLt (s := { s with heap := h2.push (seqObj "list" acc.toList.toArray 0), toks := t2 }) hoL hS.keysOf
    (fun v₁ v₂ rest e => keyKind_strs (by rw [← e]; exact hS)) (by rw [hal]; exact hz) fun st hp hs => ⟨_, rfl, ?_⟩) (args_list_sort _)))
  obtain ⟨ys, g1, g2, g3⟩ := sorted_out_str hS hp hs
  obtain ⟨k1, hk1⟩ := sortedHeap_at (vs := acc.toList) (out := (arrOf st).map (·.2)) hoL
  have J2 := J.laid (t' := t2) (o := .lst (ys.map V.str)) (a := h2.objs.size) (h' := sortedHeap (h2.push (seqObj "list" acc.toList.toArray 0)) h2.objs.size acc.toList ((arrOf st).map (·.2))) (fun b u e => by
    have hb : b < h2.objs.size := Heap.lt_size e
    rw [sortedHeap_old (Nat.ne_of_lt hb) (by rw [size_push']; exact Nat.lt_succ_of_lt hb)]
    exact Heap.get?_push_of_some _ e) (Nat.le_refl _)
    (show ObjOk X.prog X.w _ _ _ (.lst (ys.map V.str)) from ⟨by rw [List.length_map, g2.length_eq]; exact hz, ((arrOf st).map (·.2)).toList, k1, vals_of_strs g1, by rw [Array.toArray_toList]; exact hk1⟩)
  exact wpAny_pure ⟨_, rfl, .ref h2.objs.size, _, J2, rfl, q ys _ g3 g2 (J.hok.fresh (Nat.le_refl _))⟩
def biVal : Bi → Value
  | .len => .builtin "len" | .abs => .builtin "abs" | .int => .type "int" | .all => .builtin "all" | .any => .builtin "any" | .sum => .builtin "sum"
  | .max => .builtin "max" | .min => .builtin "min" | .tuple => .type "tuple" | .list => .type "list" | .sorted => .builtin "sorted" | .dict => .type "dict" | .str => .type "str"
  | .sset => .builtin "sorted" | .sortp => .builtin "sorted" | .dzip => .type "dict" | .ditems => .type "list" | .lrange => .type "list"
def biName : Bi → Str
  | .len => "len" | .abs => "abs" | .int => "int" | .all => "all" | .any => "any" | .sum => "sum"
  | .max => "max" | .min => "min" | .tuple => "tuple" | .list => "list" | .sorted => "sorted" | .dict => "dict" | .str => "str"
  | .sset => "sorted" | .sortp => "sorted" | .dzip => "dict" | .ditems => "list" | .lrange => "list"
def rBiZ (K : PySem.W.Frag) : Bi → List V → Hp → VK → Prop
  | .len => fun xs H Q => (∃ x n, xs = [x] ∧ LenV K x H n ∧ Q (.int n) H) ∨ ∃ a kvs, xs = [V.ref a] ∧ H a = some (.dK kvs) ∧ Q (.int kvs.length) H
  | .abs => fun xs H Q => ∃ i, xs = [.int i] ∧ Q (.int (if i < 0 then -i else i)) H
  | .int => fun xs H Q => (∃ i, xs = [.int i] ∧ Q (.int i) H) ∨ ∃ k, xs = [.bl k] ∧ Q (.int (if k then 1 else 0)) H
  | .all => rAll K
  | .any => rAny K
  | .sum => rSum K
  | .max => fun xs H Q => rMax K xs H Q ∨ ∃ i j, xs = [.int i, .int j] ∧ Q (.int (if j > i then j else i)) H
  | .min => fun xs H Q => rMin K xs H Q ∨ ∃ i j, xs = [.int i, .int j] ∧ Q (.int (if j < i then j else i)) H
  | .tuple => fun xs H Q => ∃ p ys, xs = [.ref p] ∧ ((SqL K H p ys ∧ ∀ (l : Addr) (o : Obj), o.dict = none → H l = none → Q (.ref l) (upd H l (.frz o (.tup ys)))) ∨ (SqT K H p ys ∧ Q (.ref p) H))
  | .list => fun xs H Q => (∃ p ys, xs = [.ref p] ∧ (SqL K H p ys ∨ SqT K H p ys) ∧ ∀ l, H l = none → Q (.ref l) (upd H l (.lst ys))) ∨
      ∃ (a : Addr) (kvs : List (Key × V)), xs = [.ref a] ∧ Rd H a (.dK kvs) ∧ ∀ p, H p = none → Q (.ref p) (upd H p (.lst (kvs.map fun kv => kV kv.1)))
  | .sorted => fun xs H Q => rSrtL K xs H Q ∨ rSrtD xs H Q
  | .dict => fun xs H Q => (∃ (a : Addr) (ps : List Addr) (kvs : List (Key × V)), xs = [.ref a] ∧ SqL K H a (ps.map V.ref) ∧ Paired (fun p kv => SqT K H p [kV kv.1, kv.2]) ps kvs ∧ ∀ p, H p = none → Q (.ref p) (upd H p (.dK (mergeK [] kvs)))) ∨
      ∃ (a : Addr) (ps : List Addr) (kvs : List (Key × V)), xs = [.ref a] ∧ PlT K H a (ps.map V.ref) ∧ Paired (fun p kv => SqT K H p [kV kv.1, kv.2]) ps kvs ∧ ∀ p, H p = none → Q (.ref p) (upd H p (.dK (mergeK [] kvs)))
  | .str => fun xs H Q => ∃ i, xs = [.int i] ∧ i.natAbs.log2 < 1920 ∧ Q (.str (toString i)) H
  | .sset => fun _ _ _ => False
  | .sortp => rSrtP K
  | .dzip => fun _ _ _ => False
  | .ditems => fun _ _ _ => False
  | .lrange => fun _ _ _ => False
theorem cr_biZ {X : Cx} (hc : X.calm = true) : ∀ b : Bi, CallR X (biVal b) (rBiZ X.K b)
  | .len => CallR.or call_len call_lenD
  | .abs => call_abs
  | .int => call_int1
  | .all => cr_all hc
  | .any => cr_any hc
  | .sum => cr_sum hc
  | .max => CallR.or (cr_max hc) (call_max2 hc)
  | .min => CallR.or (cr_min hc) (call_min2 hc)
  | .tuple => call_tupleF
  | .list => CallR.or call_list_of (call_listD hc)
  | .sorted => CallR.or cr_srtL (cr_srtD hc)
  | .dict => CallR.or (call_dictP hc) (call_dictTu hc)
  | .str => call_str_int
  | .sset => fun _ _ _ _ _ _ _ _ _ h => h.elim
  | .sortp => cr_srtP
  | .dzip => fun _ _ _ _ _ _ _ _ _ h => h.elim
  | .ditems => fun _ _ _ _ _ _ _ _ _ h => h.elim
  | .lrange => fun _ _ _ _ _ _ _ _ _ h => h.elim
section
variable {K : PySem.W.Frag} {ca : String → Addr} {W : WX} {σ : L2.St} {ρ : Pl} {M : Sto} {H : Hp} {Q : VK}
theorem RKs.put : ∀ {kvs : List (Key × D)} {ws : List (Key × V)} {al : Addr → Prop} {k : Key} {d : D} {v : V}, RKs K H al ρ kvs ws → RD K H al ρ d v → RKs K H al ρ (putD k d kvs) (L2.putK ws k v) := by
  have hmap : ∀ {kvs : List (Key × D)} {ws : List (Key × V)} {al : Addr → Prop} {k : Key} {d : D} {v : V}, RKs K H al ρ kvs ws → RD K H al ρ d v →
      RKs K H al ρ (kvs.map fun kv => if kv.1 = k then (kv.1, d) else kv) (ws.map fun kv => if kv.1 = k then (kv.1, v) else kv) := by
    intro kvs ws al k d v r q
    induction r with
    | nil => exact .nil
    | @cons j x xs u us h t ih =>
      rw [List.map_cons, List.map_cons]
      by_cases e : j = k
      · simp only [e, if_true]; exact .cons q ih
      · simp only [e, if_false]; exact .cons h ih
  have happ : ∀ {kvs : List (Key × D)} {ws : List (Key × V)} {al : Addr → Prop} {k : Key} {d : D} {v : V}, RKs K H al ρ kvs ws → RD K H al ρ d v → RKs K H al ρ (kvs ++ [(k, d)]) (ws ++ [(k, v)]) := by
    intro kvs ws al k d v r q
    induction r with
    | nil => exact .cons q .nil
    | cons h t ih => exact .cons h ih
  intro kvs ws al k d v r q
  unfold putD L2.putK
  rw [keys_any k r, valV_any]
  by_cases e : (valV ws k).isSome = true
  · rw [if_pos e, if_pos e]; exact hmap r q
  · rw [if_neg e, if_neg e]; exact happ r q
theorem RKs.merge : ∀ {more : List (Key × D)} {ms : List (Key × V)} {kvs : List (Key × D)} {ws : List (Key × V)} {al : Addr → Prop}, RKs K H al ρ more ms → RKs K H al ρ kvs ws →
    RKs K H al ρ (more.foldl (fun a kv => putD kv.1 kv.2 a) kvs) (mergeK ws ms)
  | _, _, _, _, _, .nil, s => s
  | _, _, _, _, _, .cons (k := k) q r, s => by have h := RKs.merge r (s.put (k := k) q); exact h
theorem pairs_rd : ∀ {ds : List D} {vs : List V} {kvs : List (Key × D)} {al : Addr → Prop}, RDs K H al ρ ds vs → pairsK ds = some kvs → ∃ (ps : List Addr) (ws : List (Key × V)), vs = ps.map V.ref ∧ Paired (fun p kv => SqT K H p [kV kv.1, kv.2]) ps ws ∧ RKs K H al ρ kvs ws := by
  intro ds
  induction ds with
  | nil => intro vs kvs al r e; cases r; cases e; exact ⟨[], [], rfl, .nil, .nil⟩
  | cons d ds ih =>
    intro vs kvs al r e
    cases r with
    | @cons _ _ v vs q r =>
      unfold pairsK at e
      split at e
      · rename_i heq; cases heq
      · rename_i x w rest heq
        cases heq
        cases h : pairsK ds with
        | none => rw [h] at e; cases e
        | some cs =>
          rw [h] at e; cases e
          obtain ⟨ps, ws, rfl, p, k⟩ := ih r h
          obtain ⟨a, us, rfl, h1, h2, h3⟩ := q.tup_inv
          obtain ⟨u1, u2, rfl, q1, q2⟩ := h3.two
          rw [q1.str_inv] at h1
          exact ⟨a :: ps, (Sum.inr x, u2) :: ws, rfl, .cons h1 p, .cons q2 k⟩
      · rename_i x w rest heq
        cases heq
        cases h : pairsK ds with
        | none => rw [h] at e; cases e
        | some cs =>
          rw [h] at e; cases e
          obtain ⟨ps, ws, rfl, p, k⟩ := ih r h
          obtain ⟨a, us, rfl, h1, h2, h3⟩ := q.tup_inv
          obtain ⟨u1, u2, rfl, q1, q2⟩ := h3.two
          rw [q1.int_inv] at h1
          exact ⟨a :: ps, (Sum.inl x, u2) :: ws, rfl, .cons h1 p, .cons q2 k⟩
      · cases e
theorem max_one : ∀ {ns : List Int} {i m : Int}, maxInt ns = some i → m ∈ ns → (∀ y, y ∈ ns → y ≤ m) → m = i := by
  have key : ∀ (r : List Int) (x : Int), (r.foldl max x = x ∨ r.foldl max x ∈ r) ∧ x ≤ r.foldl max x ∧ ∀ y ∈ r, y ≤ r.foldl max x := by
    intro r
    induction r with
    | nil => intro x; exact ⟨.inl rfl, Int.le_refl _, fun _ h => nomatch h⟩
    | cons z r ih =>
      intro x
      obtain ⟨h1, h2, h3⟩ := ih (max x z)
      rw [List.foldl_cons]
      refine ⟨?_, by omega, fun y hy => ?_⟩
      · rcases h1 with h1 | h1
        · rw [h1]
          by_cases e : z ≤ x
          · exact .inl (by omega)
          · refine .inr (List.mem_cons.mpr (.inl (by omega)))
        · exact .inr (List.mem_cons_of_mem _ h1)
      · rcases List.mem_cons.mp hy with rfl | hy
        · omega
        · exact h3 y hy
  intro ns i m e h1 h2
  cases ns with
  | nil => cases h1
  | cons x r =>
    have e := Option.some.inj e
    obtain ⟨k1, k2, k3⟩ := key r x
    rw [e] at k1 k2 k3
    have hi : i ∈ x :: r := by
      rcases k1 with k1 | k1
      · rw [k1]; exact List.mem_cons_self
      · exact List.mem_cons_of_mem _ k1
    have h3 := h2 i hi
    rcases List.mem_cons.mp h1 with rfl | h1
    · omega
    · have := k3 m h1; omega
theorem biD_rd {b : Bi} {m : Bool} {ds : List D} {vs : List V} (rp : Rep K ρ M H) (r : RDs K H (Al ρ M) ρ ds vs) (nb : b.two = false) (f : Fi K ca (rDD K) W σ ρ M H (biD b m ds M) Q) : rBiZ K b vs H Q := by
  unfold biD at f
  split at f
  -- len
  · obtain ⟨v, rfl, q⟩ := r.one
    rw [q.str_inv]
    obtain ⟨c, f⟩ := f.ite
    exact .inl ⟨_, _, rfl, ⟨sz_of c, rfl⟩, f.ok rp (.int _)⟩
  · obtain ⟨v, rfl, q⟩ := r.one
    obtain ⟨a, rfl, ha⟩ := q.loc_inv
    split at f
    · rename_i h
      obtain ⟨ws, h1, h2, h3⟩ := rp.lst_at h ha
      refine .inl ⟨_, _, rfl, .inl ⟨ws, .inl (.inl h1), rfl⟩, ?_⟩
      rw [h3.length] at f
      exact f.ok rp (.int _)
    · rename_i h
      obtain ⟨ws, h1, h2, h3⟩ := rp.dct_at h ha
      refine .inr ⟨_, _, rfl, h1, ?_⟩
      rw [h3.length] at f
      exact f.ok rp (.int _)
    · exact f.elim
  · obtain ⟨v, rfl, q⟩ := r.one
    obtain ⟨a, ws, rfl, h1, h2, h3⟩ := q.tup_inv
    refine .inl ⟨_, _, rfl, .inr ⟨ws, h1, rfl⟩, ?_⟩
    rw [h3.length] at f
    exact f.ok rp (.int _)
  · obtain ⟨v, rfl, q⟩ := r.one
    obtain ⟨a, ws, rfl, h1, _, h2, h3⟩ := q.lst_inv
    refine .inl ⟨_, _, rfl, .inl ⟨ws, .inl (.inl h1), rfl⟩, ?_⟩
    rw [h3.length] at f
    exact f.ok rp (.int _)
  · obtain ⟨v, rfl, q⟩ := r.one
    obtain ⟨a, ws, rfl, h1, h2, h3⟩ := q.scr_inv
    refine .inl ⟨_, _, rfl, .inl ⟨ws, h1, rfl⟩, ?_⟩
    rw [h3.length] at f
    exact f.ok rp (.int _)
  -- abs, int
  · obtain ⟨v, rfl, q⟩ := r.one
    rw [q.int_inv]
    exact ⟨_, rfl, f.ok rp (.int _)⟩
  · obtain ⟨v, rfl, q⟩ := r.one
    rw [q.int_inv]
    exact .inl ⟨_, rfl, f.ok rp (.int _)⟩
  -- all, any, sum
  · obtain ⟨v, rfl, q⟩ := r.one
    obtain ⟨a, ws, rfl, h1, _, h2, h3⟩ := q.lst_inv
    obtain ⟨bs, e, f⟩ := f.ofO
    rw [bools_rd h3 e] at h1
    exact ⟨_, bs, rfl, .inl (.inl h1), f.ok rp (.bl _)⟩
  · obtain ⟨v, rfl, q⟩ := r.one
    obtain ⟨a, ws, rfl, h1, _, h2, h3⟩ := q.lst_inv
    obtain ⟨bs, e, f⟩ := f.ofO
    rw [bools_rd h3 e] at h1
    exact ⟨_, bs, rfl, .inl (.inl h1), f.ok rp (.bl _)⟩
  · obtain ⟨v, rfl, q⟩ := r.one
    obtain ⟨a, ws, rfl, h1, _, h2, h3⟩ := q.lst_inv
    obtain ⟨bs, e, f⟩ := f.ofO
    rw [ints_rd h3 e] at h1
    exact ⟨_, bs, rfl, .inl (.inl h1), f.ok rp (.int _)⟩
  -- max, min
  · obtain ⟨v, rfl, q⟩ := r.one
    obtain ⟨a, ws, rfl, h1, _, h2, h3⟩ := q.lst_inv
    obtain ⟨bs, e, f⟩ := f.ofO
    obtain ⟨i, e2, f⟩ := f.ofO
    rw [ints_rd h3 e] at h1
    refine .inl ⟨_, bs, rfl, .inl (.inl h1), ?_, fun k hk hl => ?_⟩
    · cases bs with
      | nil => cases e2
      | cons _ _ => exact Nat.succ_pos _
    · rw [max_one e2 hk hl]
      exact f.ok rp (.int _)
  · obtain ⟨v, w, rfl, q, q2⟩ := r.two
    rw [q.int_inv, q2.int_inv]
    exact .inr ⟨_, _, rfl, f.ok rp (.int _)⟩
  · obtain ⟨v, w, rfl, q, q2⟩ := r.two
    rw [q.int_inv, q2.int_inv]
    exact .inr ⟨_, _, rfl, f.ok rp (.int _)⟩
  -- tuple
  · obtain ⟨v, rfl, q⟩ := r.one
    obtain ⟨xs, e, f⟩ := f.ofO
    obtain ⟨a, ws, rfl, h1, h2, h3⟩ := asSeq_rd rp q e
    rcases h3 with ⟨h3, _⟩ | ⟨h3, h4⟩
    · refine ⟨a, ws, rfl, .inl ⟨h3, fun l o ho hl => ?_⟩⟩
      obtain ⟨r1, x1, q1⟩ := rp.newT hl ho h1 h2
      exact f _ _ _ r1 x1 q1
    · subst h4
      exact ⟨a, ws, rfl, .inr ⟨h3.sq, f.ok rp q⟩⟩
  -- list
  · obtain ⟨v, rfl, q⟩ := r.one
    obtain ⟨a, rfl, ha⟩ := q.loc_inv
    split at f
    · rename_i h
      obtain ⟨ws, h1, h2, h3⟩ := rp.lst_at h ha
      exact .inl ⟨a, ws, rfl, .inl (.inl (.inl h1)), fun l hl => newList_rd rp h3 h2 f l hl⟩
    · rename_i h
      obtain ⟨ws, h1, h2, h3⟩ := rp.dct_at h ha
      exact .inr ⟨a, ws, rfl, .inl h1, fun l hl => newList_rd rp (rds_keys h3) (by rw [List.length_map]; exact h2) f l hl⟩
    · exact f.elim
  · obtain ⟨v, rfl, q⟩ := r.one
    obtain ⟨a, ws, rfl, h1, h2, h3⟩ := q.tup_inv
    exact .inl ⟨a, ws, rfl, .inr h1, fun l hl => newList_rd rp h3 h2 f l hl⟩
  · obtain ⟨v, rfl, q⟩ := r.one
    obtain ⟨a, ws, rfl, h1, _, h2, h3⟩ := q.lst_inv
    exact .inl ⟨a, ws, rfl, .inl (.inl (.inl h1)), fun l hl => newList_rd rp h3 h2 f l hl⟩
  -- sorted
  · obtain ⟨v, rfl, q⟩ := r.one
    obtain ⟨a, rfl, ha⟩ := q.loc_inv
    split at f
    · rename_i h
      obtain ⟨ws, h1, h2, h3⟩ := rp.dct_at h ha
      obtain ⟨bs, e, f⟩ := f.ofO
      split at f
      · rename_i hlen
        refine .inr ⟨a, ws, bs, rfl, sz_of hlen, .inl h1, (keys_same h3).trans (keys_strs e), fun ys p h5 h4 hp => ?_⟩
        rw [sortStr_one h4 h5]
        refine newList_rd rp (rds_strs _) ?_ f p hp
        rw [List.length_map, (sortStr_perm bs).length_eq]
        exact sz_of hlen
      · exact f.elim
    · exact f.elim
  · obtain ⟨v, rfl, q⟩ := r.one
    obtain ⟨a, ws, rfl, h1, _, h2, h3⟩ := q.lst_inv
    obtain ⟨bs, e, f⟩ := f.ofO
    split at f
    · rename_i hlen
      rw [strs_rd h3 e] at h1
      refine .inl ⟨a, bs, rfl, sz_of hlen, .inl (.inl h1), fun ys p h5 h4 hp => ?_⟩
      rw [sortStr_one h4 h5]
      refine newList_rd rp (rds_strs _) ?_ f p hp
      rw [List.length_map, (sortStr_perm bs).length_eq]
      exact sz_of hlen
    · exact f.elim
  -- sset
  · cases nb
  -- dict
  · obtain ⟨v, rfl, q⟩ := r.one
    obtain ⟨xs, e, f⟩ := f.ofO
    obtain ⟨kvs, e2, f⟩ := f.ofO
    obtain ⟨a, ws, rfl, h1, h2, h3⟩ := asSeq_rd rp q e
    obtain ⟨ps, us, rfl, p1, k1⟩ := pairs_rd h2 e2
    have fin : ∀ p, H p = none → Q (.ref p) (upd H p (.dK (mergeK [] us))) := fun p hp => by
      have z : (mergeK [] us).length ≤ sizeLine := by
        refine Nat.le_trans (length_mergeK us []) ?_
        rw [List.length_nil, Nat.zero_add, ← p1.length]
        rw [List.length_map] at h1
        exact h1
      obtain ⟨r1, x1, e1⟩ := rp.newD hp z (k1.merge .nil)
      exact f _ _ _ r1 x1 (.loc e1)
    rcases h3 with ⟨h3, _⟩ | ⟨h3, h4⟩
    · exact .inl ⟨a, ps, us, rfl, h3, p1, fin⟩
    · exact .inr ⟨a, ps, us, rfl, h3, p1, fin⟩
  -- str
  · obtain ⟨v, rfl, q⟩ := r.one
    rw [q.int_inv]
    obtain ⟨c, f⟩ := f.ite
    exact ⟨_, rfl, of_decide_eq_true c, f.ok rp (.str _)⟩
  -- sortp
  · obtain ⟨v, rfl, q⟩ := r.one
    obtain ⟨a, ws, rfl, h1, _, h2, h3⟩ := q.lst_inv
    obtain ⟨bs, e, f⟩ := f.ofO
    obtain ⟨hlen, f⟩ := f.ite
    obtain ⟨g1, g2, g3⟩ := prsS_rd h3 e
    refine ⟨a, ws, bs, rfl, .inl (.inl h1), g2, fun zs p z1 z2 hp => ?_⟩
    have hws : ws.length = bs.length := by
      have := h3.length
      rw [g1, List.length_map] at this
      exact this.symm
    have e2 : (zs.map (·.2)) = sortP bs := sortP_one (by
      have z3 := z1.map (·.2)
      rw [show (ws.zip bs).map (·.2) = bs from List.map_snd_zip (by omega)] at z3
      exact z3) z2
    rw [← e2] at f
    refine newList_rd rp (prs_back fun z hz => g3 z (z1.mem_iff.mp hz)) ?_ f p hp
    rw [List.length_map, z1.length_eq, List.length_zip, hws, Nat.min_self]
    exact sz_of hlen
  -- dzip, ditems, lrange
  · cases nb
  · cases nb
  · cases nb
  · cases nb
  · exact f.elim
end
end Z


/-! Z6: rules for expressions. -/
namespace Z
open PySem L2 PySem.Spec PyProof.Rows

/-! ### how an expression stands -/
def plainX : Expr → Bool
  | .Starred .. => false
  | .Set .. => false
  | .Slice .. => false
  | .Lambda .. => false
  | _ => true
/-- what may stand ahead of a point -/
def baseX : Expr → Bool
  | .Call _ (_ :: _) _ _ => true
  | .Call .. => false
  | _ => true
def testX : Expr → Bool
  | .UnaryOp .Not _ _ => false
  | .BoolOp .. => false
  | .IfExp .. => false
  | .Compare .. => false
  | _ => true
def compX : Expr → Bool
  | .ListComp .. => true
  | .SetComp .. => true
  | .DictComp .. => true
  | _ => false
theorem starEach_plain {e : Expr} {es : List Expr} {env : Env} (h : plainX e = true) : starEach (e :: es) env = (false, eval e env) :: starEach es env := by
  cases e <;> first | rfl | cases h
theorem backTo_plain {env : Env} {pos : Pos} : ∀ {es : List Expr}, es.all plainX = true → (backTo pos (starEach es env)).any (·.1) = false
  | [], _ => rfl
  | e :: es, h => by
    rw [List.all_cons, Bool.and_eq_true] at h
    rw [starEach_plain h.1]
    show (false || (backTo pos (starEach es env)).any (·.1)) = false
    rw [backTo_plain h.2]; rfl
theorem base_plain {e : Expr} {f : Str} {env : Env} {w : Sem Value} (h : baseX e = true) : attributeBase e f env w = w := by
  cases e with
  | Call g args kws pos =>
    cases args with
    | nil => exact absurd h (by unfold baseX; simp)
    | cons x r => cases g <;> cases kws <;> rfl
  | _ => rfl
theorem fold_plain {e : Expr} {env : Env} (h : plainX e = true) : ∀ x, foldedSetIterable e env x = pure x := by
  intro x
  cases e <;> first | rfl | cases h
theorem mark_plain {e : Expr} {op : CmpOp} (h : plainX e = true) : behindInMarks op e = false := by
  cases e <;> first | rfl | cases h
theorem test_plain {e : Expr} {env : Env} (h : testX e = true) : ∀ whole, isTrue e env whole = (do let v ← whole; standAt e.pos; holding [v] (truthy v)) := by
  intro w
  cases e with
  | UnaryOp op _ _ => cases op <;> first | rfl | cases h
  | _ => first | rfl | cases h
theorem ix_plain {b : Expr} (h : plainX b = true) : PlainIx b := by
  intro o i
  cases b <;> first | rfl | cases h
theorem swaps_plain {e : Expr} {t : Option Expr} {l : Nat} {env : Env} (h : compX e = false) : swapsWith e t l env = pure false := by
  cases e <;> first | rfl | cases h

abbrev zE (X : Cx) (ca : String → Addr) (W : WX) (C : Calls) (e : E) : TE := rd X.K ca (rDD X.K) W fun env M => evE C e env M
abbrev zEs (X : Cx) (ca : String → Addr) (W : WX) (C : Calls) (es : Es) : TA := rd X.K ca (rDs X.K) W fun env M => evEs C es env M
abbrev zT (X : Cx) (ca : String → Addr) (W : WX) (C : Calls) (e : E) : TT := rd X.K ca rId W fun env M => (evE C e env M).bind fun x M1 => ofO (asB x) M1
abbrev zO (X : Cx) (ca : String → Addr) (W : WX) (C : Calls) (o : Oe) : TO := rd X.K ca rId W fun env M => evO C o env M

section
variable {X : Cx} {ca : String → Addr} {W : WX} {C : Calls} {a b c : E} {pa pb pc : Expr} {pos : Pos}
theorem z_var {i : Nat} {x : Str} (hN : X.N[i]? = some x) (hv : Vis X.env.scope x) (hd : (x == ("__debug__" : Str)) = false) (hcd : (x == ("__classdict__" : Str)) = false) : PE X (.Name x pos) (zE X ca W C (.var i)) :=
  pe_imp (pe_var hN hv hd hcd) fun σ H Q ⟨ρ, env, M, rp, re, f⟩ => by
    dsimp only [evE] at f
    split at f
    · rename_i d h
      obtain ⟨v, h1, h2⟩ := re.at_ _ _ h
      exact ⟨v, h1, f.ok rp h2⟩
    · exact f.elim
theorem z_int {i : Int} {j : Nat} : PE X (.Constant (.int i) j pos) (zE X ca W C (.cst (.int i))) := pe_imp pe_int fun σ H Q ⟨ρ, env, M, rp, re, f⟩ => Fi.ok (R := rDD X.K) rp (.int _) f
theorem z_bl {i : Bool} {j : Nat} : PE X (.Constant (.bool i) j pos) (zE X ca W C (.cst (.bl i))) := pe_imp pe_bl fun σ H Q ⟨ρ, env, M, rp, re, f⟩ => Fi.ok (R := rDD X.K) rp (.bl _) f
theorem z_non {j : Nat} : PE X (.Constant .none j pos) (zE X ca W C (.cst .non)) := pe_imp pe_non fun σ H Q ⟨ρ, env, M, rp, re, f⟩ => Fi.ok (R := rDD X.K) rp .non f
theorem z_str {i : Str} {j : Nat} : PE X (.Constant (.str i) j pos) (zE X ca W C (.cst (.str i))) := pe_imp pe_str fun σ H Q ⟨ρ, env, M, rp, re, f⟩ => Fi.ok (R := rDD X.K) rp (.str _) f
theorem z_gl {x : Str} {g : String} {d : D} {v : V} {u : Value} (hg : Gl X x) (hm : X.mg x = some u) (r : RelV v u) (q : ∀ H al ρ, RD X.K H al ρ d v) (hd : (x == ("__debug__" : Str)) = false) : PE X (.Name x pos) (zE X ca W C (.gl g d)) :=
  pe_imp (pe_glob hg hm r hd) fun σ H Q ⟨ρ, env, M, rp, re, f⟩ => Fi.ok (R := rDD X.K) rp (q _ _ _) f
/-- two parts, then what is done with them -/
theorem rd2 {R : VK → V → V → Hp → Prop} {k : D → D → Sto → Res D} {σ : L2.St} {H : Hp} {Q : VK}
    (h : rd X.K ca (rDD X.K) W (fun env M => (evE C a env M).bind fun x M1 => (evE C b env M1).bind fun y M2 => k x y M2) σ H Q)
    (hk : ∀ ρ M H x y dx dy, Rep X.K ρ M H → RD X.K H (Al ρ M) ρ dx x → RD X.K H (Al ρ M) ρ dy y → Fi X.K ca (rDD X.K) W σ ρ M H (k dx dy M) Q → R Q x y H) :
    zE X ca W C a σ H fun x H1 => zE X ca W C b σ H1 fun y H2 => R Q x y H2 := by
  obtain ⟨ρ, env, M, rp, re, f⟩ := h
  refine ⟨ρ, env, M, rp, re, (f.bind (R1 := rDD X.K)).imp ?_⟩
  rintro x H1 ⟨ρ1, M1, d1, rp1, x1, q1, f1⟩
  refine ⟨ρ1, env, M1, rp1, re.ext x1, (f1.bind (R1 := rDD X.K)).imp ?_⟩
  rintro y H2 ⟨ρ2, M2, d2, rp2, x2, q2, f2⟩
  exact hk _ _ _ _ _ _ _ rp2 (RD.ext x2 q1) q2 f2
theorem rd1 {R : VK → V → Hp → Prop} {k : D → Sto → Res D} {σ : L2.St} {H : Hp} {Q : VK} (h : rd X.K ca (rDD X.K) W (fun env M => (evE C a env M).bind k) σ H Q)
    (hk : ∀ ρ M H x dx, Rep X.K ρ M H → RD X.K H (Al ρ M) ρ dx x → Fi X.K ca (rDD X.K) W σ ρ M H (k dx M) Q → R Q x H) : zE X ca W C a σ H fun x H1 => R Q x H1 := by
  obtain ⟨ρ, env, M, rp, re, f⟩ := h
  refine ⟨ρ, env, M, rp, re, (f.bind (R1 := rDD X.K)).imp ?_⟩
  rintro x H1 ⟨ρ1, M1, d1, rp1, x1, q1, f1⟩
  exact hk _ _ _ _ _ rp1 q1 f1
theorem z_bin {op : Bop} (ha : PE X pa (zE X ca W C a)) (hb : PE X pb (zE X ca W C b)) : PE X (.BinOp pa (bopOf op) pb pos) (zE X ca W C (.bin op a b)) :=
  pe_imp (pe_op (op_binZ op) ha hb) fun σ H Q h => rd2 (R := fun Q x y H => rBinZ X.K op x y H Q) (k := fun x y M => binD op x y M) h fun ρ M H x y dx dy rp qx qy f => binD_rd rp qx qy f
theorem z_neg (ha : PE X pa (zE X ca W C a)) : PE X (.UnaryOp .USub pa pos) (zE X ca W C (.neg a)) :=
  pe_imp (pe_un un_neg ha) fun σ H Q h => rd1 (R := fun Q x H => (rU fun i => .int (-i)) x H Q) h fun ρ M H x dx rp qx f => by
    cases dx <;> first | exact f.elim | skip
    rw [qx.int_inv]
    exact ⟨_, rfl, f.ok rp (.int _)⟩
theorem z_frz (ha : PE X pa (zE X ca W C a)) : PE X pa (zE X ca W C (.frz a)) :=
  pe_imp ha fun σ H Q h => by
    have h2 := rd1 (R := fun Q x H => Q x H) (k := fun x M => frzD x M) h fun ρ M H x dx rp qx f => by
      unfold frzD at f
      split at f
      · rename_i n
        obtain ⟨b, rfl, hb⟩ := qx.loc_inv
        split at f
        · rename_i xs hm
          obtain ⟨r1, x1, q1⟩ := rp.done hm hb
          exact f _ _ _ r1 x1 q1
        · exact f.elim
      · exact f.elim
    exact h2
theorem z_cmp {op : Cop} (hu : X.A.units + 65 < cLine) (ha : PE X pa (zE X ca W C a)) (hb : PE X pb (zE X ca W C b)) (hp : plainX pb = true) : PE X (.Compare pa [copOf op] [pb] pos) (zE X ca W C (.cmp op a b)) :=
  pe_imp (pe_cmpR (op_cmpZ hu op) ha hb (mark_plain hp)) fun σ H Q h => rd2 (R := fun Q x y H => rCmpZ X.K op x y H Q) h fun ρ M H x y dx dy rp qx qy f => by
    obtain ⟨k, e, f⟩ := f.ofO
    exact cmpD_rd rp qx qy e (f.ok rp (.bl _))
theorem zt_cmp {op : Cop} (hu : X.A.units + 65 < cLine) (ha : PE X pa (zE X ca W C a)) (hb : PE X pb (zE X ca W C b)) (hp : plainX pb = true) : PT X (.Compare pa [copOf op] [pb] pos) (zT X ca W C (.cmp op a b)) := by
  refine pt_imp (pt_cmpR (op_cmpZ hu op) ha hb (mark_plain hp)) fun σ H Q h => ?_
  obtain ⟨ρ, env, M, rp, re, f⟩ := h
  have h2 : rd X.K ca (rDD X.K) W (fun env M => evE C (.cmp op a b) env M) σ H fun x H' => ∃ k, x = .bl k ∧ Q k H' := by
    refine ⟨ρ, env, M, rp, re, (f.bind (R1 := rDD X.K)).imp ?_⟩
    rintro x H1 ⟨ρ1, M1, d1, rp1, x1, q1, f1⟩
    cases d1 <;> first | exact f1.elim | skip
    exact ⟨_, q1.bl_inv, f1.ok rp1 rfl⟩
  exact rd2 (R := fun Q x y H => rCmpZ X.K op x y H Q) h2 fun ρ M H x y dx dy rp qx qy f => by
    obtain ⟨k, e, f⟩ := f.ofO
    exact cmpD_rd rp qx qy e (f.ok rp (.bl _))
/-- a test of a value that is True or False -/
theorem zt_val (ha : PE X pa (zE X ca W C a)) (ht : testX pa = true) : PT X pa (zT X ca W C a) :=
  pt_imp (pt_val ha (test_plain ht)) fun σ H Q ⟨ρ, env, M, rp, re, f⟩ => ⟨ρ, env, M, rp, re, (f.bind (R1 := rDD X.K)).imp fun x H1 ⟨ρ1, M1, d1, rp1, x1, q1, f1⟩ => by
    cases d1 <;> first | exact f1.elim | skip
    exact ⟨_, q1.bl_inv, f1.ok rp1 rfl⟩⟩
theorem chain_tail {o1 o2 : Cop} {σ : L2.St} {H : Hp} {Q : VK} (h : zE X ca W C (.chain o1 o2 a b c) σ H Q) : tChain (rCmpZ X.K o1) (rCmpZ X.K o2) (zE X ca W C a) (zE X ca W C b) (zE X ca W C c) σ H Q := by
  obtain ⟨ρ, env, M, rp, re, f⟩ := h
  refine ⟨ρ, env, M, rp, re, (Fi.bind (R1 := rDD X.K) (show Fi X.K ca (rDD X.K) W σ ρ M H ((evE C a env M).bind _) Q from f)).imp ?_⟩
  rintro x H1 ⟨ρ1, M1, d1, rp1, x1, q1, f1⟩
  refine ⟨ρ1, env, M1, rp1, re.ext x1, (f1.bind (R1 := rDD X.K)).imp ?_⟩
  rintro y H2 ⟨ρ2, M2, d2, rp2, x2, q2, f2⟩
  obtain ⟨k, e, f2⟩ := f2.ofO
  refine cmpD_rd rp2 (RD.ext x2 q1) q2 e ⟨k, rfl, ?_⟩
  cases k with
  | true =>
    rw [if_pos rfl] at f2 ⊢
    refine ⟨ρ2, env, M2, rp2, (re.ext x1).ext x2, (f2.bind (R1 := rDD X.K)).imp ?_⟩
    rintro z H3 ⟨ρ3, M3, d3, rp3, x3, q3, f3⟩
    obtain ⟨k2, e2, f3⟩ := f3.ofO
    exact cmpD_rd rp3 (RD.ext x3 q2) q3 e2 (f3.ok rp3 (.bl _))
  | false =>
    rw [if_neg Bool.false_ne_true] at f2 ⊢
    exact f2.ok rp2 (.bl _)
end
end Z


/-! Z7: rules for expressions, second part. -/
namespace Z
open PySem L2 PySem.Spec PyProof.Rows

theorem bind_assoc {α β γ : Type} (r : Res α) (f : α → Sto → Res β) (g : β → Sto → Res γ) : (r.bind f).bind g = r.bind fun a M => (f a M).bind g := by cases r <;> rfl
theorem Fi.bindE {α β γ δ : Type} {K : PySem.W.Frag} {ca : String → Addr} {R : Rl α β} {R1 : Rl γ δ} {W : WX} {σ : L2.St} {ρ : Pl} {M : Sto} {H : Hp} {Q : β → Hp → Prop} {r : Res γ} {f : γ → Sto → Res α} (h : Fi K ca R W σ ρ M H (r.bind f) Q) :
    Fi K ca R1 W σ ρ M H r fun b H1 => ∃ ρ1 M1 a, r = .ok a M1 ∧ Rep K ρ1 M1 H1 ∧ Ext ρ M H ρ1 M1 H1 ∧ R1 H1 (Al ρ1 M1) ρ1 a b ∧ Fi K ca R W σ ρ1 M1 H1 (f a M1) Q := by
  cases r with
  | ok a M' => exact fun ρ' H' b r1 x1 q => ⟨ρ', M', a, rfl, r1, x1, q, Fi.go x1 h⟩
  | exc c p M' => exact fun ρ' H' cv dd r1 x1 q => h ρ' H' cv dd r1 x1 q
  | fail => exact h
def Es.len : Es → Nat
  | .nil => 0
  | .cons _ r => r.len + 1
theorem evEs_len {C : Calls} : ∀ {es : Es} {env : En} {M M' : Sto} {ds : List D}, evEs C es env M = .ok ds M' → ds.length = es.len
  | .nil, env, M, M', ds, h => by rw [evEs] at h; cases h; rfl
  | .cons e r, env, M, M', ds, h => by
    rw [evEs] at h
    cases h1 : evE C e env M with
    | ok a M1 =>
      rw [h1, bind_ok] at h
      cases h2 : evEs C r env M1 with
      | ok xs M2 => rw [h2, bind_ok] at h; cases h; rw [List.length_cons, evEs_len h2, Es.len]
      | exc _ _ _ => rw [h2] at h; cases h
      | fail => rw [h2] at h; cases h
    | exc _ _ _ => rw [h1] at h; cases h
    | fail => rw [h1] at h; cases h
section
variable {X : Cx} {ca : String → Addr} {W : WX} {C : Calls} {a b c : E} {pa pb pc : Expr} {pos : Pos} {es : Es} {ps : List Expr}
/-- a value that is True or False -/
theorem z_bl_of {Q : Bool → Hp → Prop} {σ : L2.St} {H : Hp} (h : zT X ca W C a σ H Q) : zE X ca W C a σ H fun x H' => ∃ k, x = .bl k ∧ Q k H' := by
  obtain ⟨ρ, env, M, rp, re, f⟩ := h
  refine ⟨ρ, env, M, rp, re, (f.bind (R1 := rDD X.K)).imp ?_⟩
  rintro x H1 ⟨ρ1, M1, d1, rp1, x1, q1, f1⟩
  cases d1 <;> first | exact f1.elim | skip
  exact ⟨_, q1.bl_inv, f1.ok rp1 rfl⟩
theorem z_chain {o1 o2 : Cop} (hu : X.A.units + 65 < cLine) (ha : PE X pa (zE X ca W C a)) (hb : PE X pb (zE X ca W C b)) (hc : PE X pc (zE X ca W C c)) (hp : plainX pc = true) :
    PE X (.Compare pa [copOf o1, copOf o2] [pb, pc] pos) (zE X ca W C (.chain o1 o2 a b c)) :=
  pe_imp (pe_chain (op_cmpZ hu o1) (op_cmpZ hu o2) ha hb hc (mark_plain hp)) fun σ H Q h => chain_tail h
theorem zt_chain {o1 o2 : Cop} (hu : X.A.units + 65 < cLine) (ha : PE X pa (zE X ca W C a)) (hb : PE X pb (zE X ca W C b)) (hc : PE X pc (zE X ca W C c)) (hp : plainX pc = true) :
    PT X (.Compare pa [copOf o1, copOf o2] [pb, pc] pos) (zT X ca W C (.chain o1 o2 a b c)) :=
  pt_imp (pt_chain (op_cmpZ hu o1) (op_cmpZ hu o2) ha hb hc (mark_plain hp)) fun σ H Q h => chain_tail (z_bl_of h)
theorem z_isN {j : Nat} {p2 : Pos} (ha : PE X pa (zE X ca W C a)) : PE X (.Compare pa [.Is] [.Constant .none j p2] pos) (zE X ca W C (.isN false a)) :=
  pe_imp (pe_cmp (pc_isN ha)) fun σ H Q h => rd1 (R := fun Q x H => Q (.bl (decide (x = .non))) H) h fun ρ M H x dx rp qx f => by
    cases qx <;> exact f.ok rp (.bl _)
theorem z_notN {j : Nat} {p2 : Pos} (ha : PE X pa (zE X ca W C a)) : PE X (.Compare pa [.IsNot] [.Constant .none j p2] pos) (zE X ca W C (.isN true a)) :=
  pe_imp (pe_cmp (pc_notN ha)) fun σ H Q h => rd1 (R := fun Q x H => Q (.bl (!decide (x = .non))) H) h fun ρ M H x dx rp qx f => by
    cases qx <;> exact f.ok rp (.bl _)
theorem zt_isN {j : Nat} {p2 : Pos} (ha : PE X pa (zE X ca W C a)) : PT X (.Compare pa [.Is] [.Constant .none j p2] pos) (zT X ca W C (.isN false a)) :=
  pt_imp (pt_cmp (pc_isN ha)) fun σ H Q h => rd1 (R := fun Q x H => Q (.bl (decide (x = .non))) H) (z_bl_of h) fun ρ M H x dx rp qx f => by
    cases qx <;> exact f.ok rp (.bl _)
theorem zt_notN {j : Nat} {p2 : Pos} (ha : PE X pa (zE X ca W C a)) : PT X (.Compare pa [.IsNot] [.Constant .none j p2] pos) (zT X ca W C (.isN true a)) :=
  pt_imp (pt_cmp (pc_notN ha)) fun σ H Q h => rd1 (R := fun Q x H => Q (.bl (!decide (x = .non))) H) (z_bl_of h) fun ρ M H x dx rp qx f => by
    cases qx <;> exact f.ok rp (.bl _)
/-- is True, is False -/
def rIsZ (b : Bool) : R2 := fun x y H Q => y = .bl b ∧ Q (.bl (decide (x = .bl b))) H
def rNotZ (b : Bool) : R2 := fun x y H Q => y = .bl b ∧ Q (.bl (!decide (x = .bl b))) H
theorem relbl {x : V} {v : Value} (r : RelV x v) (b : Bool) : (v == Value.bool b) = decide (x = .bl b) := by
  cases x with
  | bl c => cases (show v = Value.bool c from r); cases b <;> cases c <;> rfl
  | non => cases r; rfl
  | int _ => obtain ⟨t, rfl⟩ := r; rfl
  | str _ => obtain ⟨t, rfl⟩ := r; rfl
  | byt _ => obtain ⟨t, rfl⟩ := r; rfl
  | flt _ => obtain ⟨t, rfl⟩ := r; rfl
  | ref _ => cases r; rfl
  | ty _ => cases r; rfl
theorem op_isZ {b : Bool} : OpR X (compareOp .Is) (rIsZ b) := by
  intro pins s σ H x y v u Q I rx ry h
  obtain ⟨rfl, q⟩ := h
  cases (show u = Value.bool b from ry)
  have hz := relbl rx b
  rw [← hz] at q
  have key : wpAny (model X.prog X.w) X.A (compareOp .Is v (.bool b)) (fun r s' => r = .bool (v == .bool b) ∧ s' = s) X.xe s := by
    cases x <;> first | (cases rx; refine wpAny_pure ?_; exact ⟨rfl, rfl⟩) | (obtain ⟨t, rfl⟩ := rx; refine wpAny_pure ?_; exact ⟨rfl, rfl⟩)
  refine thn key ?_
  rintro r s' ⟨rfl, rfl⟩
  exact ⟨.bl _, H, I, rfl, q⟩
theorem op_notZ {b : Bool} : OpR X (compareOp .IsNot) (rNotZ b) := by
  intro pins s σ H x y v u Q I rx ry h
  obtain ⟨rfl, q⟩ := h
  cases (show u = Value.bool b from ry)
  have hz := relbl rx b
  rw [← hz] at q
  have key : wpAny (model X.prog X.w) X.A (compareOp .IsNot v (.bool b)) (fun r s' => r = .bool (!(v == .bool b)) ∧ s' = s) X.xe s := by
    cases x <;> first | (cases rx; refine wpAny_pure ?_; exact ⟨rfl, rfl⟩) | (obtain ⟨t, rfl⟩ := rx; refine wpAny_pure ?_; exact ⟨rfl, rfl⟩)
  refine thn key ?_
  rintro r s' ⟨rfl, rfl⟩
  exact ⟨.bl _, H, I, rfl, q⟩
theorem z_isB {b : Bool} {j : Nat} {p2 : Pos} (ha : PE X pa (zE X ca W C a)) : PE X (.Compare pa [.Is] [.Constant (.bool b) j p2] pos) (zE X ca W C (.isB false b a)) :=
  pe_imp (pe_cmpR (op_isZ (b := b)) ha pe_bl (mark_plain rfl)) fun σ H Q h => rd1 (R := fun Q x H => rIsZ b x (.bl b) H Q) h fun ρ M H x dx rp qx f => by
    refine ⟨rfl, ?_⟩
    cases qx <;> first | exact f.ok rp (.bl _) | skip
    rename_i c
    have f := f.ok rp (.bl _)
    cases c <;> cases b <;> exact f
theorem z_notB {b : Bool} {j : Nat} {p2 : Pos} (ha : PE X pa (zE X ca W C a)) : PE X (.Compare pa [.IsNot] [.Constant (.bool b) j p2] pos) (zE X ca W C (.isB true b a)) :=
  pe_imp (pe_cmpR (op_notZ (b := b)) ha pe_bl (mark_plain rfl)) fun σ H Q h => rd1 (R := fun Q x H => rNotZ b x (.bl b) H Q) h fun ρ M H x dx rp qx f => by
    refine ⟨rfl, ?_⟩
    cases qx <;> first | exact f.ok rp (.bl _) | skip
    rename_i c
    have f := f.ok rp (.bl _)
    cases c <;> cases b <;> exact f
theorem zt_isB {b : Bool} {j : Nat} {p2 : Pos} (ha : PE X pa (zE X ca W C a)) : PT X (.Compare pa [.Is] [.Constant (.bool b) j p2] pos) (zT X ca W C (.isB false b a)) :=
  pt_imp (pt_cmpR (op_isZ (b := b)) ha pe_bl (mark_plain rfl)) fun σ H Q h => rd1 (R := fun Q x H => rIsZ b x (.bl b) H Q) (z_bl_of h) fun ρ M H x dx rp qx f => by
    refine ⟨rfl, ?_⟩
    cases qx <;> first | exact f.ok rp (.bl _) | skip
    rename_i c
    have f := f.ok rp (.bl _)
    cases c <;> cases b <;> exact f
theorem zt_notB {b : Bool} {j : Nat} {p2 : Pos} (ha : PE X pa (zE X ca W C a)) : PT X (.Compare pa [.IsNot] [.Constant (.bool b) j p2] pos) (zT X ca W C (.isB true b a)) :=
  pt_imp (pt_cmpR (op_notZ (b := b)) ha pe_bl (mark_plain rfl)) fun σ H Q h => rd1 (R := fun Q x H => rNotZ b x (.bl b) H Q) (z_bl_of h) fun ρ M H x dx rp qx f => by
    refine ⟨rfl, ?_⟩
    cases qx <;> first | exact f.ok rp (.bl _) | skip
    rename_i c
    have f := f.ok rp (.bl _)
    cases c <;> cases b <;> exact f
/-! ### and, or, not -/
def bopB : Bool → BoolOp
  | true => .And
  | false => .Or
abbrev zB (X : Cx) (ca : String → Addr) (W : WX) (C : Calls) (k : Bool) (es : Es) : TE := rd X.K ca (rDD X.K) W fun env M => evBoo C k es env M
abbrev zBT (X : Cx) (ca : String → Addr) (W : WX) (C : Calls) (k : Bool) (es : Es) : TT := rd X.K ca rId W fun env M => (evBoo C k es env M).bind fun x M1 => ofO (asB x) M1
theorem z_boo1 {k : Bool} {op : BoolOp} (ha : PE X pa (zE X ca W C a)) : PE X (.BoolOp op [pa] pos) (zB X ca W C k (.cons a .nil)) :=
  pe_imp (pe_one ha) fun σ H Q ⟨ρ, env, M, rp, re, f⟩ => ⟨ρ, env, M, rp, re, by dsimp only [evBoo] at f; exact f⟩
theorem z_boo2 {k : Bool} {e2 : E} {r : Es} {q : Expr} {qs : List Expr} (ha : PE X pa (zE X ca W C a)) (hr : PE X (.BoolOp (bopB k) (q :: qs) pos) (zB X ca W C k (.cons e2 r))) :
    PE X (.BoolOp (bopB k) (pa :: q :: qs) pos) (zB X ca W C k (.cons a (.cons e2 r))) := by
  have main : ∀ σ H Q, zB X ca W C k (.cons a (.cons e2 r)) σ H Q → zE X ca W C a σ H fun x H1 => ∃ c, x = .bl c ∧ if c = k then zB X ca W C k (.cons e2 r) σ H1 Q else Q (.bl (!k)) H1 := by
    intro σ H Q ⟨ρ, env, M, rp, re, f⟩
    dsimp only [evBoo] at f
    refine ⟨ρ, env, M, rp, re, (f.bind (R1 := rDD X.K)).imp ?_⟩
    rintro x H1 ⟨ρ1, M1, d1, rp1, x1, q1, f1⟩
    obtain ⟨b, e, f2⟩ := f1.ofO
    cases d1 <;> cases e
    refine ⟨_, q1.bl_inv, ?_⟩
    by_cases hk : b = k
    · subst hk
      rw [if_pos (by simp)] at f2
      rw [if_pos rfl]
      exact ⟨ρ1, env, M1, rp1, re.ext x1, f2⟩
    · rw [if_neg (by simpa using hk)] at f2
      rw [if_neg hk]
      exact f2.ok rp1 (.bl _)
  cases k with
  | true => exact pe_imp (pe_and ha hr) fun σ H Q h => main σ H Q h
  | false =>
    refine pe_imp (pe_or ha hr) fun σ H Q h => ?_
    obtain ⟨ρ, env, M, rp, re, f⟩ := main σ H Q h
    refine ⟨ρ, env, M, rp, re, f.imp fun x H1 ⟨c, e, z⟩ => ⟨c, e, ?_⟩⟩
    cases c with
    | true => rw [if_neg (by decide)] at z; rw [if_pos rfl]; exact z
    | false => rw [if_pos rfl] at z; rw [if_neg (by decide)]; exact z
theorem zw_boo1 {k : Bool} (ha : PT X pa (zT X ca W C a)) : PW X (.BoolOp (bopB k) [pa] pos) (zBT X ca W C k (.cons a .nil)) := by
  have i : ∀ σ H Q, zBT X ca W C k (.cons a .nil) σ H Q → zT X ca W C a σ H Q := fun σ H Q ⟨ρ, env, M, rp, re, f⟩ => ⟨ρ, env, M, rp, re, by dsimp only [evBoo] at f; exact f⟩
  cases k with
  | true => exact ⟨fun wh pins s σ H Q I h => (pw_and1 ha).run wh pins s σ H Q I (i _ _ _ h)⟩
  | false => exact ⟨fun wh pins s σ H Q I h => (pw_or1 ha).run wh pins s σ H Q I (i _ _ _ h)⟩
theorem zw_boo2 {k : Bool} {e2 : E} {r : Es} {q : Expr} {qs : List Expr} (ha : PT X pa (zT X ca W C a)) (hr : PW X (.BoolOp (bopB k) (q :: qs) pos) (zBT X ca W C k (.cons e2 r))) :
    PW X (.BoolOp (bopB k) (pa :: q :: qs) pos) (zBT X ca W C k (.cons a (.cons e2 r))) := by
  have main : ∀ σ H Q, zBT X ca W C k (.cons a (.cons e2 r)) σ H Q → zT X ca W C a σ H fun c H1 => if c = k then zBT X ca W C k (.cons e2 r) σ H1 Q else Q (!k) H1 := by
    intro σ H Q ⟨ρ, env, M, rp, re, f⟩
    dsimp only [evBoo] at f
    rw [bind_assoc] at f
    simp only [bind_assoc] at f
    rw [← bind_assoc] at f
    refine ⟨ρ, env, M, rp, re, (f.bind (R1 := rId)).imp ?_⟩
    rintro c H1 ⟨ρ1, M1, b, rp1, x1, q1, f1⟩
    cases q1
    by_cases hk : c = k
    · subst hk
      rw [if_pos (by simp)] at f1
      rw [if_pos rfl]
      exact ⟨ρ1, env, M1, rp1, re.ext x1, f1⟩
    · rw [if_neg (by simpa using hk)] at f1
      rw [if_neg hk]
      exact f1.ok rp1 rfl
  cases k with
  | true => exact ⟨fun wh pins s σ H Q I h => (pw_and ha hr).run wh pins s σ H Q I (main _ _ _ h)⟩
  | false =>
    refine ⟨fun wh pins s σ H Q I h => (pw_or ha hr).run wh pins s σ H Q I ?_⟩
    obtain ⟨ρ, env, M, rp, re, f⟩ := main σ H Q h
    refine ⟨ρ, env, M, rp, re, f.imp fun c H1 z => ?_⟩
    cases c with
    | true => rw [if_neg (by decide)] at z; rw [if_pos rfl]; exact z
    | false => rw [if_pos rfl] at z; rw [if_neg (by decide)]; exact z
theorem z_not (ha : PE X pa (zE X ca W C a)) : PE X (.UnaryOp .Not pa pos) (zE X ca W C (.not a)) :=
  pe_imp (pe_not ha) fun σ H Q h => rd1 (R := fun Q x H => ∃ c, x = .bl c ∧ Q (.bl (!c)) H) h fun ρ M H x dx rp qx f => by
    obtain ⟨b, e, f2⟩ := f.ofO
    cases dx <;> cases e
    exact ⟨_, qx.bl_inv, f2.ok rp (.bl _)⟩
theorem zt_not (ha : PT X pa (zT X ca W C a)) : PT X (.UnaryOp .Not pa pos) (zT X ca W C (.not a)) :=
  pt_imp (pt_not ha) fun σ H Q ⟨ρ, env, M, rp, re, f⟩ => by
    dsimp only [evE] at f
    rw [bind_assoc] at f
    simp only [bind_assoc] at f
    rw [← bind_assoc] at f
    refine ⟨ρ, env, M, rp, re, (f.bind (R1 := rId)).imp ?_⟩
    rintro c H1 ⟨ρ1, M1, b, rp1, x1, q1, f1⟩
    cases q1
    exact f1.ok rp1 rfl
theorem z_ite (hc : PT X pc (zT X ca W C c)) (ha : PE X pa (zE X ca W C a)) (hb : PE X pb (zE X ca W C b)) : PE X (.IfExp pc pa pb pos) (zE X ca W C (.ite c a b)) :=
  pe_imp (pe_ifExp hc ha hb) fun σ H Q ⟨ρ, env, M, rp, re, f⟩ => by
    dsimp only [evE] at f
    rw [← bind_assoc] at f
    refine ⟨ρ, env, M, rp, re, (f.bind (R1 := rId)).imp ?_⟩
    rintro k H1 ⟨ρ1, M1, b, rp1, x1, q1, f1⟩
    cases q1
    cases k with
    | true => rw [if_pos rfl] at f1 ⊢; exact ⟨ρ1, env, M1, rp1, re.ext x1, f1⟩
    | false => rw [if_neg (by decide)] at f1 ⊢; exact ⟨ρ1, env, M1, rp1, re.ext x1, f1⟩
/-! ### displays -/
theorem za_nil : PA X [] (zEs X ca W C .nil) := pa_imp pa_nil fun σ H Q ⟨ρ, env, M, rp, re, f⟩ => by
  dsimp only [evEs] at f; exact Fi.ok (R := rDs X.K) rp .nil f
theorem za_cons (hp : plainX pa = true) (ha : PE X pa (zE X ca W C a)) (hr : PA X ps (zEs X ca W C es)) : PA X (pa :: ps) (zEs X ca W C (.cons a es)) :=
  pa_imp (pa_cons ha hr (starEach_plain hp)) fun σ H Q ⟨ρ, env, M, rp, re, f⟩ => by
    dsimp only [evEs] at f
    refine ⟨ρ, env, M, rp, re, (f.bind (R1 := rDD X.K)).imp ?_⟩
    rintro x H1 ⟨ρ1, M1, d1, rp1, x1, q1, f1⟩
    refine ⟨ρ1, env, M1, rp1, re.ext x1, (f1.bind (R1 := rDs X.K)).imp ?_⟩
    rintro xs H2 ⟨ρ2, M2, d2, rp2, x2, q2, f2⟩
    exact f2.ok rp2 (.cons (RD.ext x2 q1) q2)
theorem z_tup {k : Nat} (hl : fitLen es.len = true) (h : PA X ps (zEs X ca W C es)) : PE X (.Tuple ps k pos) (zE X ca W C (.tup es)) :=
  pe_imp (pe_tupF h) fun σ H Q ⟨ρ, env, M, rp, re, f⟩ => by
    dsimp only [evE] at f
    refine ⟨ρ, env, M, rp, re, (f.bindE (R1 := rDs X.K)).imp ?_⟩
    rintro xs H1 ⟨ρ1, M1, d1, e1, rp1, x1, q1, f1⟩
    have hz : xs.length ≤ sizeLine := by rw [← q1.length, evEs_len e1]; exact sz_of hl
    refine ⟨hz, fun p o ho hp => ?_⟩
    obtain ⟨rp2, x2, q2⟩ := rp1.newT hp ho hz q1
    exact f1 _ _ _ rp2 x2 q2
theorem starD_rd {x y : D} {vx vy : V} {σ : L2.St} {ρ : Pl} {M : Sto} {H : Hp} {Q : VK} {K : PySem.W.Frag} {ca : String → Addr} {W : WX} (rp : Rep K ρ M H) (qx : RD K H (Al ρ M) ρ x vx) (qy : RD K H (Al ρ M) ρ y vy) (f : Fi K ca (rDD K) W σ ρ M H (starD x y M) Q) :
    ∃ a vs, vy = .ref a ∧ (SqT K H a vs ∨ SqL K H a vs) ∧ (vx :: vs).length ≤ sizeLine ∧ ∀ (p : Addr) (o : Obj), o.dict = none → H p = none → Q (.ref p) (upd H p (.frz o (.tup (vx :: vs)))) := by
  unfold starD at f
  split at f
  · obtain ⟨a, vs, rfl, h1, hn, h2, h3⟩ := qy.lst_inv
    obtain ⟨c, f⟩ := f.ite
    have c := sz_of c
    rw [h3.length] at c
    refine ⟨a, vs, rfl, .inr (.of h1), c, fun p o ho hp => ?_⟩
    obtain ⟨r1, x1, q1⟩ := rp.newT hp ho (vs := vx :: vs) c (.cons qx h3)
    exact (f.go x1).ok r1 q1
  · obtain ⟨a, vs, rfl, h1, h2, h3⟩ := qy.tup_inv
    obtain ⟨c, f⟩ := f.ite
    have c := sz_of c
    rw [h3.length] at c
    refine ⟨a, vs, rfl, .inl h1, c, fun p o ho hp => ?_⟩
    obtain ⟨r1, x1, q1⟩ := rp.newT hp ho (vs := vx :: vs) c (.cons qx h3)
    exact (f.go x1).ok r1 q1
  · exact f.elim
theorem z_tstar {k : Nat} {sp : Pos} (hp : plainX pa = true) (ha : PE X pa (zE X ca W C a)) (hb : PE X pb (zE X ca W C b)) : PE X (.Tuple [pa, .Starred pb sp] k pos) (zE X ca W C (.tstar a b)) :=
  pe_imp (pe_tupF (pa_cons ha (StX.pa_star (p := sp) hb pa_nil) (starEach_plain hp))) fun σ H Q ⟨ρ, env, M, rp, re, f⟩ => by
    dsimp only [evE] at f
    refine ⟨ρ, env, M, rp, re, (f.bind (R1 := rDD X.K)).imp ?_⟩
    rintro x H1 ⟨ρ1, M1, d1, rp1, x1, q1, f1⟩
    refine ⟨ρ1, env, M1, rp1, re.ext x1, (f1.bind (R1 := rDD X.K)).imp ?_⟩
    rintro y H2 ⟨ρ2, M2, d2, rp2, x2, q2, f2⟩
    obtain ⟨l, vs, e, h1, h2, h3⟩ := starD_rd rp2 (RD.ext x2 q1) q2 f2
    refine ⟨l, vs, e, h1, ?_⟩
    show (x :: (vs ++ [])).length ≤ sizeLine ∧ ∀ (p : Addr) (o : Obj), o.dict = none → H2 p = none → Q (.ref p) (upd H2 p (.frz o (.tup (x :: (vs ++ [])))))
    rw [List.append_nil]
    exact ⟨h2, h3⟩
theorem z_lst {m : Bool} (hl : fitLen es.len = true) (h : PA X ps (zEs X ca W C es)) : PE X (.List ps pos) (zE X ca W C (.lst m es)) :=
  pe_imp (pe_lst h) fun σ H Q ⟨ρ, env, M, rp, re, f⟩ => by
    dsimp only [evE] at f
    refine ⟨ρ, env, M, rp, re, (f.bindE (R1 := rDs X.K)).imp ?_⟩
    rintro xs H1 ⟨ρ1, M1, d1, e1, rp1, x1, q1, f1⟩
    have hz : xs.length ≤ sizeLine := by rw [← q1.length, evEs_len e1]; exact sz_of hl
    exact ⟨hz, newList_rd rp1 q1 hz f1⟩
theorem z_dic0 : PE X (.Dict [] [] pos) (zE X ca W C .dic0) :=
  pe_imp pe_dnewK fun σ H Q ⟨ρ, env, M, rp, re, f⟩ => by
    intro p hp
    dsimp only [evE] at f
    obtain ⟨rp2, x2, q2⟩ := rp.newD (xs := []) (vs := []) hp (Nat.zero_le _) .nil
    exact f _ _ _ rp2 x2 (.loc q2)
end
end Z


/-! Z8: rules for expressions, third part: places, slices, calls. -/
namespace Z
open PySem L2 PySem.Spec PyProof.Rows

theorem wpAny_self {α : Type} {M : Model} {A : Around} {t : Sem α} {Q : α → Shared → Prop} {E : Value → Shared → Prop} {s : Shared} (h : wpAny M A t Q E s) : wpAny M A t Q E s := h
/-! ### places -/
theorem ix_dict {X : Cx} (hu : X.A.units + 1 < cLine) : IxR X (fun x y H Q => ∃ a v, x = .ref a ∧ DGet H a y (some v) ∧ Q v H) := by
  intro value slice pins s σ H x y v u Q I rx ry h hs
  obtain ⟨a, z, rfl, g, q⟩ := h
  obtain rfl : v = Value.ref a := rx
  exact tail_any (dict_typeIs I g) PySem.F.slot_dict_getitem.lookup (d_getItem hu I g ry fun w' s3 I3 rw' => ⟨z, H, I3, rw', q⟩) hs
def rIxZ (K : PySem.W.Frag) : R2 := fun x y H Q => rIx K x y H Q ∨ ∃ a v, x = .ref a ∧ DGet H a y (some v) ∧ Q v H
theorem atI_rd {K : PySem.W.Frag} {H : Hp} {al : Addr → Prop} {ρ : Pl} {xs : List D} {vs : List V} {i : Int} {d : D} (r : RDs K H al ρ xs vs) (e : itemAt xs i = some d) : ∃ v, atI vs i = some v ∧ RD K H al ρ d v := by
  have hl := r.length
  unfold itemAt atI at *
  rw [← hl]
  cases h : ixN xs.length i with
  | none => rw [h] at e; cases e
  | some j =>
    rw [h] at e
    exact r.get e
section
variable {K : PySem.W.Frag} {ca : String → Addr} {W : WX} {σ : L2.St} {ρ : Pl} {M : Sto} {H : Hp} {Q : VK} {x y : V} {dx dy d : D}
theorem getK_rd {kvs : List (Key × D)} {ws : List (Key × V)} {k : Key} {al : Addr → Prop} (r : RKs K H al ρ kvs ws) (e : getK kvs k = some d) : ∃ v, valV ws k = some v ∧ RD K H al ρ d v := by
  rcases keys_get k r with ⟨h1, h2⟩ | ⟨d', v, h1, h2, h3⟩
  · rw [e] at h1; cases h1
  · rw [e] at h1; cases h1; exact ⟨v, h2, h3⟩
theorem idxD_rd (rp : Rep K ρ M H) (qx : RD K H (Al ρ M) ρ dx x) (qy : RD K H (Al ρ M) ρ dy y) (e : idxD M dx dy = some d) (q : ∀ v, RD K H (Al ρ M) ρ d v → Q v H) : rIxZ K x y H Q := by
  unfold idxD at e
  split at e
  · rename_i s i
    split at e
    · rename_i hf
      cases h : itemAt s.cps.toList i with
      | none => rw [h] at e; cases e
      | some c =>
        rw [h] at e; cases e
        rw [qx.str_inv, qy.int_inv]
        exact .inl (.inr (.inr ⟨s, i, c, rfl, rfl, sz_of hf, h, q _ (.str _)⟩))
    · cases e
  · rename_i xs i
    obtain ⟨a, vs, rfl, h1, h2, h3⟩ := qx.tup_inv
    obtain ⟨v, g1, g2⟩ := atI_rd h3 e
    rw [qy.int_inv]
    exact .inl (.inr (.inl ⟨a, vs, i, v, rfl, rfl, h1, g1, q _ g2⟩))
  · rename_i xs i
    obtain ⟨a, vs, rfl, h1, hn, h2, h3⟩ := qx.lst_inv
    obtain ⟨v, g1, g2⟩ := atI_rd h3 e
    rw [qy.int_inv]
    exact .inl (.inl ⟨a, vs, i, v, rfl, rfl, .of h1, g1, q _ g2⟩)
  · rename_i n
    obtain ⟨a, rfl, ha⟩ := qx.loc_inv
    split at e
    · rename_i xs i hm
      obtain ⟨vs, h1, h2, h3⟩ := rp.lst_at hm ha
      obtain ⟨v, g1, g2⟩ := atI_rd h3 e
      rw [qy.int_inv]
      exact .inl (.inl ⟨a, vs, i, v, rfl, rfl, .of h1, g1, q _ g2⟩)
    · rename_i kvs s hm
      obtain ⟨vs, h1, h2, h3⟩ := rp.dct_at hm ha
      obtain ⟨v, g1, g2⟩ := getK_rd h3 e
      rw [qy.str_inv]
      exact .inr ⟨a, v, rfl, .inl ⟨vs, Sum.inr s, .inl h1, rfl, g1.symm⟩, q _ g2⟩
    · rename_i kvs s hm
      obtain ⟨vs, h1, h2, h3⟩ := rp.dct_at hm ha
      obtain ⟨v, g1, g2⟩ := getK_rd h3 e
      rw [qy.int_inv]
      exact .inr ⟨a, v, rfl, .inl ⟨vs, Sum.inl s, .inl h1, rfl, g1.symm⟩, q _ g2⟩
    · cases e
  · cases e
/-! ### slices -/
/-- t[lo:hi] of a tuple -/
def rSlF (K : PySem.W.Frag) : V → Option Int → Option Int → Hp → VK → Prop := fun x lo hi H Q => ∃ a xs, x = .ref a ∧ SqT K H a xs ∧ (HT.sIx xs.length 0 lo = 0 ∧ HT.sIx xs.length xs.length hi = xs.length → Q x H) ∧
  (¬ (HT.sIx xs.length 0 lo = 0 ∧ HT.sIx xs.length xs.length hi = xs.length) → ∀ (p : Addr) (o : Obj), o.dict = none → H p = none → Q (.ref p) (upd H p (.frz o (.tup (cutV xs lo hi)))))
theorem sl_tupF {X : Cx} : SlR X (rSlF X.K) := by
  rintro pins s σ H x v vl vu lo hi sl Q I rx hs pl pu ⟨a, xs, rfl, hx, q1, q2⟩
  cases rx
  obtain ⟨l1, r1, ht, hz⟩ := I.tuple hx
  have hl : l1.toArray.size = xs.length := by rw [List.size_toArray, r1.length]
  refine ⟨"tuple", _, slot_tuple_getitem.lookup, ht.typeIs, ?_⟩
  by_cases hw : HT.sIx xs.length 0 lo = 0 ∧ HT.sIx xs.length xs.length hi = xs.length
  · exact getItem_tuple_whole ht hs pl pu (hl ▸ hw) ⟨.ref a, H, I, rfl, q1 hw⟩
  · refine HT.getItem_tuple_cut ht hs pl pu (by rw [hl]; exact hw) ?_ (by rw [hl]; exact hz)
    rw [hl]
    refine ⟨.ref s.heap.objs.size, upd H s.heap.objs.size (.frz { cls := .type "tuple", data := .seq ((l1.drop (HT.sIx xs.length 0 lo)).take (HT.sIx xs.length xs.length hi - HT.sIx xs.length 0 lo)).toArray } (.tup (cutV xs lo hi))), ?_, rfl, q2 hw _ _ rfl (I.hok.fresh (Nat.le_refl _))⟩
    exact I.laid (t' := s.toks) (fun b u e => Heap.get?_push_of_some _ e) (Nat.le_refl _) ⟨Heap.get?_push_size _ rfl, Nat.le_trans (cutV_length xs lo hi) hz, _, (r1.drop (HT.sIx xs.length 0 lo)).take (HT.sIx xs.length xs.length hi - HT.sIx xs.length 0 lo), IsTup.new _ _⟩
def rSlZ (K : PySem.W.Frag) : V → Option Int → Option Int → Hp → VK → Prop := fun x lo hi H Q => rSlL K x lo hi H Q ∨ rSlF K x lo hi H Q ∨ rSlS x lo hi H Q
theorem cut_rd {al : Addr → Prop} {xs : List D} {vs : List V} (lo hi : Option Int) (r : RDs K H al ρ xs vs) : RDs K H al ρ (cut xs lo hi) (cutV vs lo hi) := by
  unfold cut cutV
  rw [r.length]
  exact (r.drop _).take _
theorem cutV_len {vs : List V} {lo hi : Option Int} (h : vs.length ≤ sizeLine) : (cutV vs lo hi).length ≤ sizeLine := by
  unfold cutV
  rw [List.length_take, List.length_drop]
  omega
theorem cut_all {α : Type} {xs : List α} {lo hi : Option Int} (h : HT.sIx xs.length 0 lo = 0 ∧ HT.sIx xs.length xs.length hi = xs.length) : cut xs lo hi = xs := by
  unfold cut
  rw [h.1, h.2, List.drop_zero, Nat.sub_zero, List.take_length]
theorem slcD_rd {m : Bool} {lo hi : Option Int} (rp : Rep K ρ M H) (qx : RD K H (Al ρ M) ρ dx x) (f : Fi K ca (rDD K) W σ ρ M H (slcD m dx lo hi M) Q) : rSlZ K x lo hi H Q := by
  unfold slcD at f
  split at f
  · rename_i s
    obtain ⟨c, f⟩ := f.ite
    rw [qx.str_inv]
    refine .inr (.inr ⟨s, rfl, sz_of c, ?_⟩)
    have e : (⟨(cut s.cps.toList lo hi).toArray⟩ : Str) = cutS s lo hi := by
      unfold cut cutS
      rw [show s.cps.toList.length = s.length from by rw [Array.length_toList]; rfl]
    rw [e] at f
    exact f.ok rp (.str _)
  · rename_i xs
    obtain ⟨a, vs, rfl, h1, hn, h2, h3⟩ := qx.lst_inv
    exact .inl ⟨a, vs, rfl, .of h1, newList_rd rp (cut_rd lo hi h3) (cutV_len h2) f⟩
  · rename_i xs
    obtain ⟨a, vs, rfl, h1, h2, h3⟩ := qx.scr_inv
    exact .inl ⟨a, vs, rfl, h1, newList_rd rp (cut_rd lo hi h3) (cutV_len h2) f⟩
  · rename_i xs
    obtain ⟨a, vs, rfl, h1, h2, h3⟩ := qx.tup_inv
    refine .inr (.inl ⟨a, vs, rfl, h1, fun e => ?_, fun _ p o ho hp => ?_⟩)
    · rw [cut_all (by rw [h3.length]; exact e)] at f
      exact f.ok rp qx
    · obtain ⟨r1, x1, q1⟩ := rp.newT hp ho (cutV_len h2) (cut_rd lo hi h3)
      exact (f.go x1).ok r1 q1
  · rename_i n
    obtain ⟨a, rfl, ha⟩ := qx.loc_inv
    split at f
    · rename_i xs hm
      obtain ⟨vs, h1, h2, h3⟩ := rp.lst_at hm ha
      exact .inl ⟨a, vs, rfl, .of h1, newList_rd rp (cut_rd lo hi h3) (cutV_len h2) f⟩
    · exact f.elim
  · exact f.elim
end
/-! ### functions -/
theorem Fi.sw {α β : Type} {K : PySem.W.Frag} {ca : String → Addr} {R : Rl α β} {W : WX} {σ : L2.St} {ρ : Pl} {M : Sto} {H : Hp} {Q : β → Hp → Prop} {r : Res α} (h : Fi K ca R W σ ρ M H r Q) : Fi K ca R (fun c d _ H => W c d σ H) [] ρ M H r Q := by
  cases r <;> exact h
theorem Fi.ws {α β : Type} {K : PySem.W.Frag} {ca : String → Addr} {R : Rl α β} {E : XK} {W : WX} {σ : L2.St} {ρ : Pl} {M : Sto} {H : Hp} {Q : β → Hp → Prop} {r : Res α} (h : Fi K ca R (fun c d _ H => E c d H) [] ρ M H r Q) (i : ∀ c d H, E c d H → W c d σ H) : Fi K ca R W σ ρ M H r Q := by
  cases r with
  | ok a M' => exact h
  | exc c p M' => exact fun ρ' H' cv dd r1 x1 q => i _ _ _ (h ρ' H' cv dd r1 x1 q)
  | fail => exact h
theorem RDs.perm {K : PySem.W.Frag} {H : Hp} {al : Addr → Prop} {ρ : Pl} {π : List Nat} {ds : List D} {vs : List V} (r : RDs K H al ρ ds vs) : RDs K H al ρ (permL π ds) (permL π vs) := by
  unfold permL
  split
  · exact r
  · induction π with
    | nil => exact .nil
    | cons i t ih =>
      rw [List.filterMap_cons, List.filterMap_cons]
      cases e : ds[i]? with
      | none =>
        have hl : vs[i]? = none := by
          rw [List.getElem?_eq_none_iff] at e ⊢
          rw [← r.length]; exact e
        rw [hl]
        by_cases ht : t = []
        · subst ht; exact .nil
        · exact ih (by cases t <;> simp_all)
      | some d =>
        obtain ⟨v, h1, h2⟩ := r.get e
        rw [h1]
        by_cases ht : t = []
        · subst ht; exact .cons h2 .nil
        · exact .cons h2 (ih (by cases t <;> simp_all))
theorem vals_get : ∀ {vs : List V} {us : List Value} {i : Nat}, Vals vs us → (vs[i]? = none ∧ us[i]? = none) ∨ ∃ v u, vs[i]? = some v ∧ us[i]? = some u ∧ RelV v u
  | _, _, _, .nil => .inl ⟨by simp, by simp⟩
  | _, _, 0, .cons h _ => .inr ⟨_, _, rfl, rfl, h⟩
  | _, _, i + 1, .cons _ r => by simpa using vals_get (i := i) r
theorem vals_perm {π : List Nat} {vs : List V} {us : List Value} (r : Vals vs us) : Vals (permL π vs) (permL π us) := by
  unfold permL
  split
  · exact r
  · induction π with
    | nil => exact .nil
    | cons i t ih =>
      rw [List.filterMap_cons, List.filterMap_cons]
      rcases vals_get (i := i) r with ⟨e1, e2⟩ | ⟨v, u, e1, e2, e3⟩
      · rw [e1, e2]
        by_cases ht : t = []
        · subst ht; exact .nil
        · exact ih (by cases t <;> simp_all)
      · rw [e1, e2]
        by_cases ht : t = []
        · subst ht; exact .cons e3 .nil
        · exact .cons e3 (ih (by cases t <;> simp_all))
/-- what a def promises: what is reckoned of it -/
def spC (K : PySem.W.Frag) (ca : String → Addr) (C : Calls) (g : String) : Sp := fun vs H Q E => ∃ ρ M ds, Rep K ρ M H ∧ RDs K H (Al ρ M) ρ ds vs ∧ Fi K ca (rDD K) (fun c d _ H => E c d H) [] ρ M H (C g ds M) Q
/-- a def that may be called -/
def FnL (X : Cx) (ca : String → Addr) (C : Calls) (g : String) (x : Str) (ks : Option (List Str × List Nat)) (k : Nat) : Prop := ∃ (f : Addr) (fd : FuncData) (ps : List Str), FnOk X.prog X.w X.K X.mg X.base (L2.CX X.prog X.w) k f fd ps (spC X.K ca C g) ∧ X.mg x = some (.ref f) ∧
  PySem.W.keepIn X.K (.ref f) = true ∧ (match ks with
    | none => Binds X.K fd ps []
    | some kp => ∀ (s : Shared) (us ws : List Value), X.K.In s.heap → ws.length = kp.1.length → (us ++ permL kp.2 ws).length = ps.length → BindsTo s fd ⟨us, kp.1.zip ws⟩ (ps.zip (us ++ permL kp.2 ws)))
def FnZ (X : Cx) (ca : String → Addr) (C : Calls) (g : String) (x : Str) (ks : Option (List Str × List Nat)) : Prop := ∃ k, FnL X ca C g x ks k ∧ Room k X.A
section
variable {X : Cx} {ca : String → Addr} {W : WX} {C : Calls} {a b c : E} {pa pb pc : Expr} {pos : Pos} {es kes : Es} {ps : List Expr} {x : Str} {p : Pos} {g : String}
theorem z_idx (hu : X.A.units + 1 < cLine) (ha : PE X pa (zE X ca W C a)) (hb : PE X pb (zE X ca W C b)) (hp : plainX pb = true) : PE X (.Subscript pa pb pos) (zE X ca W C (.idx a b)) :=
  pe_imp (pe_ix (ix_seq.or (ix_dict hu)) ha hb (ix_plain hp)) fun σ H Q h => rd2 (R := fun Q x y H => rIxZ X.K x y H Q) h fun ρ M H x y dx dy rp qx qy f => by
    cases e : idxD M dx dy with
    | none => rw [e] at f; exact f.elim
    | some d =>
      rw [e] at f
      exact idxD_rd rp qx qy e fun v qv => f.ok rp qv
theorem zo_none : PO X none (zO X ca W C .non) := ⟨fun pins s σ H Q I h => po_none.run pins s σ H Q I (by
  obtain ⟨ρ, env, M, rp, re, f⟩ := h
  dsimp only [evO] at f
  exact Fi.ok (R := rId) rp rfl f)⟩
theorem zo_some (ha : PE X pa (zE X ca W C a)) : PO X (some pa) (zO X ca W C (.som a)) := ⟨fun pins s σ H Q I h => (po_some ha).run pins s σ H Q I (by
  obtain ⟨ρ, env, M, rp, re, f⟩ := h
  dsimp only [evO] at f
  refine ⟨ρ, env, M, rp, re, (f.bind (R1 := rDD X.K)).imp ?_⟩
  rintro x H1 ⟨ρ1, M1, d1, rp1, x1, q1, f1⟩
  cases d1 <;> first | exact f1.elim | skip
  exact ⟨_, q1.int_inv, f1.ok rp1 rfl⟩)⟩
theorem z_slc {m : Bool} {lo hi : Oe} {pl ph : Option Expr} {p2 : Pos} (ha : PE X pa (zE X ca W C a)) (hl : PO X pl (zO X ca W C lo)) (hh : PO X ph (zO X ca W C hi)) : PE X (.Subscript pa (.Slice pl ph none p2) pos) (zE X ca W C (.slc m a lo hi)) :=
  pe_imp (pe_slice (r := rSlZ X.K) (SlR.or sl_list (SlR.or sl_tupF sl_str)) ha hl hh) fun σ H Q ⟨ρ, env, M, rp, re, f⟩ => by
    dsimp only [evE] at f
    refine ⟨ρ, env, M, rp, re, (f.bind (R1 := rDD X.K)).imp ?_⟩
    rintro x H1 ⟨ρ1, M1, d1, rp1, x1, q1, f1⟩
    refine ⟨ρ1, env, M1, rp1, re.ext x1, (f1.bind (R1 := rId)).imp ?_⟩
    rintro l H2 ⟨ρ2, M2, l', rp2, x2, rfl, f2⟩
    refine ⟨ρ2, env, M2, rp2, (re.ext x1).ext x2, (f2.bind (R1 := rId)).imp ?_⟩
    rintro h H3 ⟨ρ3, M3, h', rp3, x3, rfl, f3⟩
    exact slcD_rd rp3 (RD.ext x3 (RD.ext x2 q1)) f3
theorem z_rev {m : Bool} {k : Nat} {p1 p2 p3 : Pos} (ha : PE X pa (zE X ca W C a)) : PE X (.Subscript pa (.Slice none none (some (.UnaryOp .USub (.Constant (.int 1) k p1) p2)) p3) pos) (zE X ca W C (.rev m a)) :=
  pe_imp (pe_revL ha) fun σ H Q h => rd1 (R := fun Q x H1 => ∃ a xs, x = .ref a ∧ SqL X.K H1 a xs ∧ ∀ p, H1 p = none → Q (.ref p) (upd H1 p (.lst xs.reverse))) h fun ρ M H x dx rp qx f => by
    cases dx <;> first | exact f.elim | skip
    obtain ⟨a, vs, rfl, h1, hn, h2, h3⟩ := qx.lst_inv
    exact ⟨a, vs, rfl, .of h1, newList_rd rp h3.reverse (by rw [List.length_reverse]; exact h2) f⟩
theorem callS0 {E : L2.St → XK} {k : Nat} {f : Addr} {fd : FuncData} {qs : List Str} {sp : Sp} (F : FnOk X.prog X.w X.K X.mg X.base (L2.CX X.prog X.w) k f fd qs sp) (hr : Room k X.A) (hg : Gl X x) (hm : X.mg x = some (.ref f)) (hk : PySem.W.keepIn X.K (.ref f) = true) (hb : Binds X.K fd qs []) (hx : ∀ σ, PassesAt (L2.CX X.prog X.w) X σ (E σ))
    (hdb : (x == ("__debug__" : Str)) = false) : PE X (.Call (.Name x p) [] [] pos) (tCallS sp E tNil) := by
  refine ⟨fun pins s σ H Q I h => ?_⟩
  refine wpAny_Call_Name_kw (ld_glob I hg hm ?_ hdb)
  exact PySem.W.callWith_K0 I.kIn hk (run_fnS (us := []) F hr hb (hx σ) I .nil h)
theorem z_call (tk : Takes X W) (F : FnZ X ca C g x none) (hg : Gl X x) (hdb : (x == ("__debug__" : Str)) = false) (hp : ps.all plainX = true) (ha : PA X ps (zEs X ca W C es)) (he : ps = [] → es = .nil) :
    PE X (.Call (.Name x p) ps [] pos) (zE X ca W C (.call g es)) := by
  obtain ⟨k, ⟨f, fd, qs, F, hm, hk, hb⟩, hr⟩ := F
  have fin : ∀ σ H Q, zE X ca W C (.call g es) σ H Q → zEs X ca W C es σ H fun vs H1 => spC X.K ca C g vs H1 Q (WE W σ) := by
    intro σ H Q ⟨ρ, env, M, rp, re, f⟩
    dsimp only [evE] at f
    refine ⟨ρ, env, M, rp, re, (f.bind (R1 := rDs X.K)).imp ?_⟩
    rintro xs H1 ⟨ρ1, M1, d1, rp1, x1, q1, f1⟩
    exact ⟨ρ1, M1, d1, rp1, q1, f1.sw⟩
  cases ps with
  | nil =>
    cases he rfl
    refine pe_imp (callS0 F hr hg hm hk hb (fun σ => passAt tk σ) hdb) fun σ H Q h => ?_
    obtain ⟨ρ, env, M, rp, re, f⟩ := fin σ H Q h
    dsimp only [evEs] at f
    exact Fi.ok (R := rDs X.K) rp .nil f
  | cons q qs' =>
    have hp' := hp
    rw [List.all_cons, Bool.and_eq_true] at hp'
    exact pe_imp (pe_callS F hr hg hm hk hb (fun σ => passAt tk σ) ha hdb (starEach_plain hp'.1) (backTo_plain hp'.2)) fin
/-- keywords -/
def kwsOf : List Keyword → List Expr
  | [] => []
  | k :: r => k.value :: kwsOf r
theorem zk_nil : PK X [] (zEs X ca W C .nil) := ⟨fun po pins s σ H Q I ⟨ρ, env, M, rp, re, f⟩ => pk_nil.run po pins s σ H Q I (by dsimp only [evEs] at f; exact Fi.ok (R := rDs X.K) rp .nil f)⟩
theorem zk_cons {nm : Option Str} {kp : Pos} {kws : List Keyword} (ha : PE X pa (zE X ca W C a)) (hr : PK X kws (zEs X ca W C es)) : PK X (⟨nm, pa, kp⟩ :: kws) (zEs X ca W C (.cons a es)) := ⟨fun po pins s σ H Q I ⟨ρ, env, M, rp, re, f⟩ => (pk_cons ha hr).run po pins s σ H Q I (by
  dsimp only [evEs] at f
  refine ⟨ρ, env, M, rp, re, (f.bind (R1 := rDD X.K)).imp ?_⟩
  rintro x H1 ⟨ρ1, M1, d1, rp1, x1, q1, f1⟩
  refine ⟨ρ1, env, M1, rp1, re.ext x1, (f1.bind (R1 := rDs X.K)).imp ?_⟩
  rintro xs H2 ⟨ρ2, M2, d2, rp2, x2, q2, f2⟩
  exact f2.ok rp2 (.cons (RD.ext x2 q1) q2))⟩
theorem kw_some {po : Pos} {env : Env} : ∀ {kws : List Keyword}, kws.all (·.arg.isSome) = true → (backToKw po (keywordEach kws env)).all (·.1.isSome) = true ∧ (backToKw po (keywordEach kws env)).any (·.1.isNone) = false
  | [], _ => ⟨rfl, rfl⟩
  | ⟨nm, e, kp⟩ :: r, h => by
    rw [List.all_cons, Bool.and_eq_true] at h
    obtain ⟨h1, h2⟩ := kw_some (po := po) (env := env) h.2
    refine ⟨?_, ?_⟩
    · show (nm.isSome && (backToKw po (keywordEach r env)).all (·.1.isSome)) = true
      rw [h1, show nm.isSome = true from h.1]; rfl
    · show (nm.isNone || (backToKw po (keywordEach r env)).any (·.1.isNone)) = false
      rw [h2]
      cases nm with
      | none => exact absurd h.1 (by simp)
      | some _ => rfl
theorem kw_names {po : Pos} {env : Env} : ∀ {kws : List Keyword}, (backToKw po (keywordEach kws env)).filterMap (·.1) = kws.filterMap (·.arg)
  | [] => rfl
  | ⟨nm, e, kp⟩ :: r => by
    have h := kw_names (po := po) (env := env) (kws := r)
    show List.filterMap _ ((nm, _) :: backToKw po (keywordEach r env)) = _
    rw [List.filterMap_cons, List.filterMap_cons, h]
/-- f(k = v, ..) -/
theorem z_callk {ks : List Str} {π : List Nat} {kws : List Keyword} (tk : Takes X W) (F : FnZ X ca C g x (some (ks, π))) (hg : Gl X x) (hdb : (x == ("__debug__" : Str)) = false) (hp : ps.all plainX = true) (ha : PA X ps (zEs X ca W C es)) (he : ps = [] → es = .nil)
    (hk : PK X kws (zEs X ca W C kes)) (hs : kws.all (·.arg.isSome) = true) (hks : kws.filterMap (·.arg) = ks) (hl : kes.len = ks.length) {kn : List String} :
    PE X (.Call (.Name x p) ps kws pos) (zE X ca W C (.callk g es kn π kes)) := by
  obtain ⟨k, ⟨f, fd, qs, F, hm, hkp, hb⟩, hr⟩ := F
  have go : ∀ {pins : List (Addr × Obj)} {s : Shared} {σ : L2.St} {H : Hp} {us : List Value} {vs : List V} {Q : VK} {ρ : Pl} {M : Sto} {env : En} {ds : List D}, Inv X pins σ H s → Vals vs us → Rep X.K ρ M H → RE X.K ρ M H env σ → RDs X.K H (Al ρ M) ρ ds vs →
      Fi X.K ca (rDD X.K) W σ ρ M H ((evEs C kes env M).bind fun ys M2 => C g (ds ++ permL π ys) M2) Q →
      wpAny (model X.prog X.w) X.A (evalAll ((backToKw pos (keywordEach kws X.env)).map (·.2))) (fun ws s₂ => X.K.In s₂.heap ∧ wpAny (model X.prog X.w) X.A (call (.ref f) us (((backToKw pos (keywordEach kws X.env)).filterMap (·.1)).zip ws)) (EP X pins σ Q) X.xe s₂) X.xe s := by
    intro pins s σ H us vs Q ρ M env ds I rv rp re rd f
    refine thn (hk.run pos pins s σ H (fun zs H2 => zs.length = kes.len ∧ spC X.K ca C g (vs ++ permL π zs) H2 Q (WE W σ)) I ⟨ρ, env, M, rp, re, (f.bindE (R1 := rDs X.K)).imp ?_⟩) fun ws s2 ⟨zs, H2, I2, rz, hz, h⟩ => ⟨I2.kIn, ?_⟩
    · rintro ys H2 ⟨ρ2, M2, d2, e2, rp2, x2, q2, f2⟩
      exact ⟨by rw [← q2.length]; exact evEs_len e2, ρ2, M2, ds ++ permL π d2, rp2, (RDs.ext x2 rd).append q2.perm, f2.sw⟩
    · rw [kw_names, hks]
      have r2 : Vals (vs ++ permL π zs) (us ++ permL π ws) := rv.append (vals_perm rz)
      have hlen : (us ++ permL π ws).length = qs.length := by rw [← r2.length]; exact F.len _ _ _ _ h
      have hw : ws.length = ks.length := by rw [← rz.length, hz, hl]
      refine wpAny_call (codeAny_mono (F.run X.A X.stack s2 H2 ⟨us, ks.zip ws⟩ (us ++ permL π ws) (vs ++ permL π zs) Q (WE W σ) hr I2.env0 (hb s2 us ws I2.kIn hw hlen) r2 h) fun r s' hq => ?_)
      cases r with
      | error e => exact passAt tk σ pins H2 s2 e s' I2 hq
      | ok fl =>
        cases fl with
        | ret u => exact I2.after hq
        | next => exact False.elim hq
        | brk => exact False.elim hq
        | cont => exact False.elim hq
  obtain ⟨s1, s2⟩ := kw_some (po := pos) (env := X.env) hs
  cases ps with
  | nil =>
    cases he rfl
    refine ⟨fun pins s σ H Q I h => ?_⟩
    refine wpAny_Call_Name_kw (ld_glob I hg hm ?_ hdb)
    refine PySem.W.callWith_KW0 (h₀ := X.base) I.ok.mod.kin hkp s1 ?_ (by show (false || _) = false; rw [s2]; rfl)
    obtain ⟨ρ, env, M, rp, re, f⟩ := h
    dsimp only [evE, evEs] at f
    exact go (us := []) (vs := []) (ds := []) I .nil rp re .nil f
  | cons q qs' =>
    have hp' := hp
    rw [List.all_cons, Bool.and_eq_true] at hp'
    have st := starEach_plain (es := qs') (env := X.env) hp'.1
    refine ⟨fun pins s σ H Q I h => ?_⟩
    refine wpAny_Call_Name_kw (ld_glob I hg hm ?_ hdb)
    refine PySem.W.callWith_KW (h₀ := X.base) I.ok.mod.kin hkp s1 ?_ (by rw [s2, backTo_plain hp]; rfl) st
    obtain ⟨ρ, env, M, rp, re, f⟩ := h
    dsimp only [evE] at f
    refine thn (ha.run pos pins s σ H (fun vs H1 => ∃ (ρ1 : Pl) (M1 : Sto) (d1 : List D), Rep X.K ρ1 M1 H1 ∧ RE X.K ρ1 M1 H1 env σ ∧ RDs X.K H1 (Al ρ1 M1) ρ1 d1 vs ∧ Fi X.K ca (rDD X.K) W σ ρ1 M1 H1 ((evEs C kes env M1).bind fun ys M2 => C g (d1 ++ permL π ys) M2) Q) I ⟨ρ, env, M, rp, re, (f.bind (R1 := rDs X.K)).imp ?_⟩) fun us s1 ⟨vs, H1, I1, rv, ρ1, M1, d1, rp1, re1, q1, f1⟩ => go I1 rv rp1 re1 q1 f1
    rintro xs H1 ⟨ρ1, M1, d1, rp1, x1, q1, f1⟩
    exact ⟨ρ1, M1, d1, rp1, re.ext x1, q1, f1⟩
/-! ### built-in functions, kinds -/
theorem bi_boot : ∀ b : Bi, bootBuiltins (biName b) = some (biVal b) := by intro b; cases b <;> rfl
theorem bi_name : ∀ b : Bi, biName b ≠ "__name__" ∧ (biName b == ("__debug__" : Str)) = false := by intro b; cases b <;> decide
theorem z_bi {b : Bi} {m : Bool} (hc : X.calm = true) (hg : Gl X (biName b)) (hm : X.mg (biName b) = none) (nb : b.two = false) (hp : ps.all plainX = true) (ha : PA X ps (zEs X ca W C es)) (hn : ps ≠ []) : PE X (.Call (.Name (biName b) p) ps [] pos) (zE X ca W C (.bi b m es)) := by
  have fin : ∀ σ H Q, zE X ca W C (.bi b m es) σ H Q → tCB (rBiZ X.K b) (zEs X ca W C es) σ H Q := by
    intro σ H Q ⟨ρ, env, M, rp, re, f⟩
    dsimp only [evE] at f
    refine ⟨ρ, env, M, rp, re, (f.bind (R1 := rDs X.K)).imp ?_⟩
    rintro xs H1 ⟨ρ1, M1, d1, rp1, x1, q1, f1⟩
    exact biD_rd rp1 q1 nb f1
  cases ps with
  | nil => exact absurd rfl hn
  | cons q qs' =>
    have hp' := hp
    rw [List.all_cons, Bool.and_eq_true] at hp'
    have h := cr_biZ (X := X) hc b
    have hb := bi_boot b
    have h1 := (bi_name b).1
    have h2 := (bi_name b).2
    have s1 := starEach_plain (es := qs') (env := X.env) hp'.1
    have s2 := backTo_plain (env := X.env) (pos := pos) hp'.2
    cases b <;> first
      | exact pe_imp (pe_callB h hg hm hb ha h1 h2 s1 s2) fin
      | exact pe_imp (pe_callTy h hg hm hb ha h1 h2 s1 s2) fin
def tyS : Ty → String
  | .int => "int" | .bool => "bool" | .str => "str" | .tup => "tuple" | .lst => "list" | .non => "NoneType" | .dct => "dict"
def tyN : Ty → Str
  | .int => "int" | .bool => "bool" | .str => "str" | .tup => "tuple" | .lst => "list" | .non => "NoneType" | .dct => "dict"
theorem ty_boot : ∀ t : Ty, t ≠ .non → bootBuiltins (tyN t) = some (.type (tyS t)) := by intro t h; cases t <;> first | rfl | exact absurd rfl h
theorem ty_name : ∀ t : Ty, tyN t ≠ "__name__" ∧ (tyN t == ("__debug__" : Str)) = false := by intro b; cases b <;> decide
theorem kit_tyZ (K : PySem.W.Frag) : ∀ u t : Ty, t ≠ .non → PySem.W.kitOne K (.type (tyS u)) (.type (tyS t)) = some (subTy u t) := by
  intro u t h
  apply kit_ty
  cases u <;> cases t <;> first | exact absurd rfl h | decide +kernel
theorem kit_anyZ (K : PySem.W.Frag) (u : Ty) : ∀ ts : List Ty, (∀ t ∈ ts, t ≠ .non) → PySem.W.kitAny K (.type (tyS u)) (ts.map fun t => .type (tyS t)) = some (ts.any (subTy u))
  | [], _ => rfl
  | t :: r, h => by
    rw [List.map_cons, PySem.W.kitAny, kit_tyZ K u t (h t List.mem_cons_self), List.any_cons]
    cases subTy u t with
    | true => rfl
    | false => exact kit_anyZ K u r fun t ht => h t (List.mem_cons_of_mem _ ht)
theorem tyx_rd {K : PySem.W.Frag} {ρ : Pl} {M : Sto} {H : Hp} {d : D} {v : V} {u : Ty} (rp : Rep K ρ M H) (q : RD K H (Al ρ M) ρ d v) (e : tyOf M d = some u) : TyX K H v (.type (tyS u)) := by
  unfold tyOf at e
  split at e
  · cases e; rw [q.int_inv]; exact .base (.int _)
  · cases e; rw [q.bl_inv]; exact .base (.bl _)
  · cases e; rw [q.str_inv]; exact .base (.str _)
  · cases e
    cases q with
    | tup h n z r =>
      obtain ⟨o, h, _⟩ := h
      exact .fTuple h
    | tupK h1 h2 h3 h4 h5 z r => exact .kTuple h1 h2.1
  · cases e
    obtain ⟨a, vs, rfl, h1, _⟩ := q.lst_inv
    exact .base (.lst h1)
  · cases e; rw [q.non_inv]; exact .base .non
  · obtain ⟨a, rfl, ha⟩ := q.loc_inv
    split at e
    · rename_i hm; cases e
      obtain ⟨vs, h1, _⟩ := rp.lst_at hm ha
      exact .base (.lst h1)
    · rename_i hm; cases e
      obtain ⟨vs, h1, _⟩ := rp.dct_at hm ha
      exact .base (.dK h1)
    · cases e
  · cases e
  · cases e
theorem z_isi1 {t : Ty} {p1 p2 : Pos} (hg : Gl X "isinstance") (hm : X.mg "isinstance" = none) (hg2 : Gl X (tyN t)) (hm2 : X.mg (tyN t) = none) (ht : t ≠ .non) (ha : PE X pa (zE X ca W C a)) (hp : plainX pa = true) :
    PE X (.Call (.Name "isinstance" p1) [pa, .Name (tyN t) p2] [] pos) (zE X ca W C (.isi a true [t])) := by
  have h2 : PE X (.Name (tyN t) p2) (tC (.ty (tyS t))) := pe_bltn hg2 hm2 (ty_boot t ht) rfl (ty_name t).1 (ty_name t).2
  refine pe_imp (pe_callB call_isi hg hm rfl (pa_cons ha (pa_cons h2 pa_nil) (starEach_plain hp)) (by decide) (by decide) (starEach_plain hp) rfl) fun σ H Q h => rd1 (R := fun Q x H => rIsi X.K [x, .ty (tyS t)] H Q) h fun ρ M H x dx rp qx f => ?_
  obtain ⟨u, e, f⟩ := f.ofO
  refine ⟨x, .ty (tyS t), .type (tyS u), .type (tyS t), subTy u t, rfl, .ty _, tyx_rd rp qx e, kit_tyZ _ u t ht, ?_⟩
  have f := f.ok rp (.bl _)
  simpa using f
end
end Z


/-! Z9: methods, what is walked, comprehensions. -/
namespace Z
open PySem L2 PySem.Spec PyProof.Rows

theorem star_all {env : Env} {pos : Pos} : ∀ {es : List Expr}, es.all plainX = true → (backTo pos (starEach es env)).all (fun x => !x.1) = true
  | [], _ => rfl
  | e :: es, h => by
    rw [List.all_cons, Bool.and_eq_true] at h
    rw [starEach_plain h.1]
    show (!false && (backTo pos (starEach es env)).all (fun x => !x.1)) = true
    rw [star_all h.2]; rfl
theorem few_plain {env : Env} {pos : Pos} {es : List Expr} (h : es.all plainX = true) (hl : es.length < 30) : ((backTo pos (starEach es env)).all (fun x => !x.1) && (backToKw pos (keywordEach [] env)).all (fun x => x.1.isSome)
      && decide (es.length + ([] : List Keyword).length + (if ([] : List Keyword).isEmpty then 0 else 1) < 30)) = true := by
  rw [star_all h]
  show (true && true && decide (es.length + 0 + 0 < 30)) = true
  rw [decide_eq_true (by omega)]; rfl
section
variable {X : Cx} {ca : String → Addr} {W : WX} {C : Calls} {a b c : E} {pa pb pc : Expr} {pos apos : Pos} {es : Es} {ps : List Expr} {x : Str} {p : Pos}
/-! ### methods -/
theorem Fi.ites {α β : Type} {K : PySem.W.Frag} {R : Rl α β} {σ : L2.St} {ρ : Pl} {M : Sto} {H : Hp} {Q : β → Hp → Prop} {k : Bool} {r : Res α} (f : Fi K ca R W σ ρ M H (if k = true then r else .fail) Q) : k = true ∧ Fi K ca R W σ ρ M H r Q := f.ite
theorem kind_lst {K : PySem.W.Frag} {ρ : Pl} {M : Sto} {H : Hp} {d : D} {v : V} {f : Mt} (rp : Rep K ρ M H) (q : RD K H (Al ρ M) ρ d v) (hf : f ≠ .get) (h : kindM f M d = true) : tyV K "list" v H := by
  unfold kindM at h
  split at h
  · obtain ⟨a, rfl, ha⟩ := q.loc_inv
    split at h
    · rename_i hm; obtain ⟨vs, h1, _⟩ := rp.lst_at hm ha; exact .inl ⟨rfl, vs, .of h1⟩
    · rename_i hm; obtain ⟨vs, h1, _⟩ := rp.lst_at hm ha; exact .inl ⟨rfl, vs, .of h1⟩
    · rename_i hm; obtain ⟨vs, h1, _⟩ := rp.lst_at hm ha; exact .inl ⟨rfl, vs, .of h1⟩
    · rename_i hm; obtain ⟨vs, h1, _⟩ := rp.lst_at hm ha; exact .inl ⟨rfl, vs, .of h1⟩
    · exact absurd rfl hf
    · rename_i hm; obtain ⟨vs, h1, _⟩ := rp.lst_at hm ha; exact .inl ⟨rfl, vs, .of h1⟩
    · cases h
  · obtain ⟨a, vs, rfl, h1, _⟩ := q.lst_inv
    exact .inl ⟨rfl, vs, .of h1⟩
  · cases h
theorem mth_go {f : Mt} {σ : L2.St} {H : Hp} {Q : VK} {R : V → List V → Hp → VK → Prop} {P : V → Hp → Prop}
    (hP : ∀ ρ M H d v, Rep X.K ρ M H → RD X.K H (Al ρ M) ρ d v → kindM f M d = true → P v H)
    (hR : ∀ ρ M H d v ds vs, Rep X.K ρ M H → RD X.K H (Al ρ M) ρ d v → RDs X.K H (Al ρ M) ρ ds vs → Fi X.K ca (rDD X.K) W σ ρ M H (mthD f d ds M) Q → R v vs H Q)
    (h : zE X ca W C (.mth f a es) σ H Q) : zE X ca W C a σ H fun x H1 => P x H1 ∧ zEs X ca W C es σ H1 fun xs H2 => R x xs H2 Q := by
  obtain ⟨ρ, env, M, rp, re, f⟩ := h
  dsimp only [evE] at f
  refine ⟨ρ, env, M, rp, re, (f.bind (R1 := rDD X.K)).imp ?_⟩
  rintro x H1 ⟨ρ1, M1, d1, rp1, x1, q1, f1⟩
  obtain ⟨hk, f1⟩ := f1.ites
  refine ⟨hP _ _ _ _ _ rp1 q1 hk, ρ1, env, M1, rp1, re.ext x1, (f1.bind (R1 := rDs X.K)).imp ?_⟩
  rintro xs H2 ⟨ρ2, M2, d2, rp2, x2, q2, f2⟩
  exact hR _ _ _ _ _ _ _ rp2 (RD.ext x2 q1) q2 f2
theorem z_append (ha : PE X pa (zE X ca W C a)) (hb : baseX pa = true) (hp : plainX pb = true) (hv : PE X pb (zE X ca W C b)) (hl : (apos.endLine == pos.line) = true) :
    PE X (.Call (.Attribute pa "append" apos) [pb] [] pos) (zE X ca W C (.mth .append a (.cons b .nil))) := by
  have hps : [pb].all plainX = true := by rw [List.all_cons, hp]; rfl
  refine pe_imp (pe_bm PySem.F.plainAttrs_list PySem.F.slot_list_append PySem.F.type_list_append mt_append ha (za_cons hp hv za_nil) (base_plain hb) (few_plain hps (by simp)) hl (starEach_plain hp) rfl) fun σ H Q h => ?_
  refine mth_go (f := .append) (P := fun x H => tyV X.K "list" x H) (R := rAppend) (fun ρ M H d v rp q hk => kind_lst rp q (by decide) hk) (fun ρ M H d v ds vs rp q qs f => ?_) h
  unfold mthD at f
  split at f <;> try (exact f.elim)
  · rename_i n y _
    obtain ⟨a, rfl, ha⟩ := q.loc_inv
    obtain ⟨u, rfl, qu⟩ := qs.one
    split at f
    · rename_i xs hm
      obtain ⟨hz, f⟩ := f.ites
      obtain ⟨ws, h1, h2, h3⟩ := rp.lst_at hm ha
      have hlen := h3.length
      refine ⟨a, ws, u, rfl, rfl, h1, by rw [← hlen]; exact sz_lt hz, ?_⟩
      obtain ⟨r2, x2⟩ := rp.putL (ys := xs ++ [y]) (vs := ws ++ [u]) hm ha (by rw [List.length_append, ← hlen]; exact sz_lt hz) (h3.append (.cons qu .nil))
      exact f _ _ _ r2 x2 .non
    · exact f.elim
  all_goals (rename_i hh; exact absurd hh (by decide))
theorem z_pop (ha : PE X pa (zE X ca W C a)) (hb : baseX pa = true) (hl : (apos.endLine == pos.line) = true) : PE X (.Call (.Attribute pa "pop" apos) [] [] pos) (zE X ca W C (.mth .pop a .nil)) := by
  refine pe_imp (pe_bm0 PySem.F.plainAttrs_list PySem.F.slot_list_pop PySem.F.type_list_pop mt_pop ha (base_plain hb) hl) fun σ H Q h => ?_
  have h2 := mth_go (f := .pop) (P := fun x H => tyV X.K "list" x H) (R := rPop) (fun ρ M H d v rp q hk => kind_lst rp q (by decide) hk) (fun ρ M H d v ds vs rp q qs f => ?_) h
  · obtain ⟨ρ, env, M, rp, re, f⟩ := h2
    refine ⟨ρ, env, M, rp, re, f.imp fun x H1 ⟨t, ρ1, env1, M1, rp1, re1, f1⟩ => ⟨t, ?_⟩⟩
    dsimp only [evEs] at f1
    exact Fi.ok (R := rDs X.K) rp1 .nil f1
  · unfold mthD at f
    split at f <;> try (exact f.elim)
    · rename_i hh; exact absurd hh (by decide)
    · rename_i n
      obtain ⟨a, rfl, ha⟩ := q.loc_inv
      cases qs
      split at f
      · rename_i xs hm
        obtain ⟨y, e, f⟩ := f.ofO
        obtain ⟨ws, h1, h2, h3⟩ := rp.lst_at hm ha
        have hlen := h3.length
        rw [List.getLast?_eq_getElem?] at e
        obtain ⟨u, e1, qu⟩ := h3.get e
        refine ⟨a, ws, u, rfl, rfl, h1, by rw [← hlen]; exact e1, ?_⟩
        obtain ⟨r2, x2⟩ := rp.putL (ys := xs.dropLast) (vs := ws.dropLast) hm ha (by rw [List.length_dropLast]; omega) h3.dropLast
        exact f _ _ _ r2 x2 (RD.ext x2 qu)
      · exact f.elim
    all_goals (rename_i hh; exact absurd hh (by decide))
theorem z_extend (ha : PE X pa (zE X ca W C a)) (hb : baseX pa = true) (hp : plainX pb = true) (hv : PE X pb (zE X ca W C b)) (hl : (apos.endLine == pos.line) = true) :
    PE X (.Call (.Attribute pa "extend" apos) [pb] [] pos) (zE X ca W C (.mth .extend a (.cons b .nil))) := by
  have hps : [pb].all plainX = true := by rw [List.all_cons, hp]; rfl
  refine pe_imp (pe_bm PySem.F.plainAttrs_list PySem.F.slot_list_extend PySem.F.type_list_extend mt_extend ha (za_cons hp hv za_nil) (base_plain hb) (few_plain hps (by simp)) hl (starEach_plain hp) rfl) fun σ H Q h => ?_
  refine mth_go (f := .extend) (P := fun x H => tyV X.K "list" x H) (R := rExtend) (fun ρ M H d v rp q hk => kind_lst rp q (by decide) hk) (fun ρ M H d v ds vs rp q qs f => ?_) h
  unfold mthD at f
  split at f <;> try (exact f.elim)
  · rename_i hh; exact absurd hh (by decide)
  · rename_i hh; exact absurd hh (by decide)
  · rename_i n ys _
    obtain ⟨a, rfl, ha⟩ := q.loc_inv
    obtain ⟨u, rfl, qu⟩ := qs.one
    obtain ⟨a2, us, rfl, g1, gn, g2, g3⟩ := qu.lst_inv
    split at f
    · rename_i xs hm
      obtain ⟨hz, f⟩ := f.ites
      obtain ⟨ws, h1, h2, h3⟩ := rp.lst_at hm ha
      have hlen := h3.length
      have hlen2 := g3.length
      refine ⟨a, a2, ws, us, rfl, rfl, h1, g1, by rw [← hlen, ← hlen2]; exact sz_of hz, ?_⟩
      obtain ⟨r2, x2⟩ := rp.putL (ys := xs ++ ys) (vs := ws ++ us) hm ha (by rw [List.length_append, ← hlen, ← hlen2]; exact sz_of hz) (h3.append g3)
      exact f _ _ _ r2 x2 .non
    · exact f.elim
  all_goals (rename_i hh; exact absurd hh (by decide))
theorem z_popAt (ha : PE X pa (zE X ca W C a)) (hb : baseX pa = true) (hp : plainX pb = true) (hv : PE X pb (zE X ca W C b)) (hl : (apos.endLine == pos.line) = true) :
    PE X (.Call (.Attribute pa "pop" apos) [pb] [] pos) (zE X ca W C (.mth .popAt a (.cons b .nil))) := by
  have hps : [pb].all plainX = true := by rw [List.all_cons, hp]; rfl
  refine pe_imp (pe_bm PySem.F.plainAttrs_list PySem.F.slot_list_pop PySem.F.type_list_pop mt_popAt ha (za_cons hp hv za_nil) (base_plain hb) (few_plain hps (by simp)) hl (starEach_plain hp) rfl) fun σ H Q h => ?_
  refine mth_go (f := .popAt) (P := fun x H => tyV X.K "list" x H) (R := rPopAt) (fun ρ M H d v rp q hk => kind_lst rp q (by decide) hk) (fun ρ M H d v ds vs rp q qs f => ?_) h
  unfold mthD at f
  split at f <;> try (exact f.elim)
  · rename_i hh; exact absurd hh (by decide)
  · rename_i hh; exact absurd hh (by decide)
  · rename_i hh; exact absurd hh (by decide)
  · rename_i n i _
    obtain ⟨a, rfl, ha⟩ := q.loc_inv
    obtain ⟨u, rfl, qu⟩ := qs.one
    split at f
    · rename_i xs hm
      obtain ⟨hz, f⟩ := f.ites
      obtain ⟨z0, z1, z2⟩ := of_decide_eq_true hz
      obtain ⟨y, e, f⟩ := f.ofO
      obtain ⟨ws, h1, h2, h3⟩ := rp.lst_at hm ha
      have hlen := h3.length
      obtain ⟨w, e1, qw⟩ := h3.get e
      refine ⟨a, ws, i, i.toNat, w, rfl, by rw [qu.int_inv], h1, by omega, by omega, ?_, e1, ?_⟩
      · unfold PySem.seqIndex?
        have n0 : ¬ i < 0 := by omega
        simp only [n0, if_false]
        rw [if_pos]
        rw [Bool.and_eq_true]
        exact ⟨decide_eq_true z0, decide_eq_true (by omega)⟩
      · have hh : (xs.eraseIdx i.toNat).length ≤ xs.length := List.length_eraseIdx_le ..
        have hh2 : (ws.eraseIdx i.toNat).length ≤ ws.length := List.length_eraseIdx_le ..
        obtain ⟨r2, x2⟩ := rp.putL (ys := xs.eraseIdx i.toNat) (vs := ws.eraseIdx i.toNat) hm ha (by omega) (h3.eraseIdx _)
        exact f _ _ _ r2 x2 (RD.ext x2 qw)
    · exact f.elim
  all_goals (rename_i hh; exact absurd hh (by decide))
theorem z_get {e1 e2 : E} {p1 p2 : Expr} (hu : X.A.units + 1 < cLine) (ha : PE X pa (zE X ca W C a)) (hb : baseX pa = true) (hp1 : plainX p1 = true) (hp2 : plainX p2 = true) (h1 : PE X p1 (zE X ca W C e1)) (h2 : PE X p2 (zE X ca W C e2)) (hl : (apos.endLine == pos.line) = true) :
    PE X (.Call (.Attribute pa "get" apos) [p1, p2] [] pos) (zE X ca W C (.mth .get a (.cons e1 (.cons e2 .nil)))) := by
  have hps : [p1, p2].all plainX = true := by rw [List.all_cons, List.all_cons, hp1, hp2]; rfl
  have m : M2 X pa "get" apos p1 p2 pos := ⟨base_plain hb, few_plain hps (by simp), hl, by rw [starEach_plain hp1, starEach_plain hp2]; rfl⟩
  refine pe_imp (pe_dget2 hu ha h1 h2 m) fun σ H Q h => ?_
  have h2 := mth_go (f := .get) (P := fun x H => ∃ a, x = .ref a ∧ IsD H a) (R := fun x xs H Q => ∃ a y z o, x = .ref a ∧ xs = [y, z] ∧ DGet H a y o ∧ Q (o.getD z) H) (fun ρ M H d v rp q hk => ?_) (fun ρ M H d v ds vs rp q qs f => ?_) h
  · obtain ⟨ρ, env, M, rp, re, f⟩ := h2
    refine ⟨ρ, env, M, rp, re, f.imp fun x H1 ⟨⟨a, ex, t⟩, ρ1, env1, M1, rp1, re1, f1⟩ => ⟨a, ex, t, ?_⟩⟩
    dsimp only [evEs] at f1
    refine ⟨ρ1, env1, M1, rp1, re1, (f1.bind (R1 := rDD X.K)).imp ?_⟩
    rintro y H2 ⟨ρ2, M2, d2, rp2, x2, q2, f2⟩
    rw [bind_assoc] at f2
    refine ⟨ρ2, env1, M2, rp2, re1.ext x2, (f2.bind (R1 := rDD X.K)).imp ?_⟩
    rintro z H3 ⟨ρ3, M3, d3, rp3, x3, q3, f3⟩
    rw [bind_ok, bind_ok] at f3
    obtain ⟨a', y', z', o, e1, e2, g, qq⟩ := Fi.ok (R := rDs X.K) rp3 (.cons (RD.ext x3 q2) (.cons q3 .nil)) f3
    rw [ex] at e1; cases e1; cases e2
    exact ⟨o, g, qq⟩
  · unfold kindM at hk
    split at hk
    · obtain ⟨a, rfl, ha⟩ := q.loc_inv
      split at hk
      · rename_i hh; cases hh
      · rename_i hh; cases hh
      · rename_i hh; cases hh
      · rename_i hh; cases hh
      · rename_i hm _; obtain ⟨vs, g1, _⟩ := rp.dct_at hm ha; exact ⟨a, rfl, .inl ⟨vs, .inl g1⟩⟩
      · rename_i hh; cases hh
      · cases hk
    · exact absurd hk (by decide)
    · cases hk
  · unfold mthD at f
    split at f <;> try (exact f.elim)
    · rename_i hh; exact absurd hh (by decide)
    · rename_i hh; exact absurd hh (by decide)
    · rename_i hh; exact absurd hh (by decide)
    · rename_i hh; exact absurd hh (by decide)
    · rename_i n k dd _
      obtain ⟨a, rfl, ha⟩ := q.loc_inv
      obtain ⟨u, w, rfl, qu, qw⟩ := qs.two
      have fin : ∀ (kvs : List (Key × D)) (kk : Key), M[n]? = some (.dct kvs) → u = kV kk → Fi X.K ca (rDD X.K) W σ ρ M H (.ok ((getK kvs kk).getD dd) M) Q → ∃ a' y z o, V.ref a = .ref a' ∧ [u, w] = [y, z] ∧ DGet H a' y o ∧ Q (o.getD z) H := by
        intro kvs kk hm hu f
        obtain ⟨ws, g1, g2, g3⟩ := rp.dct_at hm ha
        refine ⟨a, u, w, valV ws kk, rfl, rfl, .inl ⟨ws, kk, .inl g1, hu, rfl⟩, ?_⟩
        rcases keys_get kk g3 with ⟨e1, e2⟩ | ⟨d', v, e1, e2, e3⟩
        · rw [e1] at f; rw [e2]
          exact f.ok rp qw
        · rw [e1] at f; rw [e2]
          exact f.ok rp e3
      split at f
      · rename_i kvs s hm; exact fin kvs (Sum.inr s) hm qu.str_inv f
      · rename_i kvs s hm; exact fin kvs (Sum.inl s) hm qu.int_inv f
      · exact f.elim
    all_goals (rename_i hh; exact absurd hh (by decide))
theorem find_py {n m : Nat} {d : D} (hd : D.fit m d = true) : ∀ {ds : List D} {j : Nat}, D.fits n ds = true → ds.findIdx? (fun z => D.eqv z d) = some j →
    ∃ z, (D.pys ds)[j]? = some z ∧ PyData.eqv z d.py = true ∧ ∀ (i : Nat) (z' : PyData), i < j → (D.pys ds)[i]? = some z' → PyData.eqv z' d.py = false
  | [], j, _, e => by simp at e
  | x :: r, j, h, e => by
    unfold D.fits at h
    rw [Bool.and_eq_true] at h
    rw [List.findIdx?_cons] at e
    split at e
    · rename_i hx
      cases e
      exact ⟨x.py, rfl, by rw [eqv_py h.1 hd]; exact hx, fun i z' hi => absurd hi (Nat.not_lt_zero _)⟩
    · rename_i hx
      rw [Option.map_eq_some_iff] at e
      obtain ⟨j', e1, rfl⟩ := e
      obtain ⟨z, g1, g2, g3⟩ := find_py hd h.2 e1
      refine ⟨z, by show (D.pys r)[j']? = _; exact g1, g2, fun i z' hi hz => ?_⟩
      cases i with
      | zero =>
        have hz : some x.py = some z' := hz
        cases hz
        rw [eqv_py h.1 hd]
        exact Bool.eq_false_iff.mpr hx
      | succ i => exact g3 i z' (by omega) (show (D.pys r)[i]? = _ from hz)
/-- l.index(x) -/
theorem z_index (hu : X.A.units + 65 < cLine) (ha : PE X pa (zE X ca W C a)) (hb : baseX pa = true) (hp : plainX pb = true) (hv : PE X pb (zE X ca W C b)) (hl : (apos.endLine == pos.line) = true) :
    PE X (.Call (.Attribute pa "index" apos) [pb] [] pos) (zE X ca W C (.mth .index a (.cons b .nil))) := by
  have hps : [pb].all plainX = true := by rw [List.all_cons, hp]; rfl
  refine pe_imp (pe_bm PySem.F.plainAttrs_list PySem.F.slot_list_index PySem.F.type_list_index (mt_indexD hu) ha (za_cons hp hv za_nil) (base_plain hb) (few_plain hps (by simp)) hl (starEach_plain hp) rfl) fun σ H Q h => ?_
  refine mth_go (f := .index) (P := fun x H => tyV X.K "list" x H) (R := rIndexD X.K) (fun ρ M H d v rp q hk => kind_lst rp q (by decide) hk) (fun ρ M H d v ds vs rp q qs f => ?_) h
  have key : ∀ {xs : List D} {ws : List V} {a : Addr} {x : D} {u : V}, H a = some (.lst ws) → RDs X.K H (Al ρ M) ρ xs ws → RD X.K H (Al ρ M) ρ x u → Fi X.K ca (rDD X.K) W σ ρ M H (idxOf xs x M) Q → rIndexD X.K (.ref a) [u] H Q := by
    intro xs ws a x u ha r qx f
    unfold idxOf at f
    obtain ⟨hf, f⟩ := f.ites
    rw [Bool.and_eq_true] at hf
    split at f
    · rename_i j hj
      obtain ⟨z, g1, g2, g3⟩ := find_py (n := 63) hf.1 hf.2 hj
      exact ⟨a, u, x.py, D.pys xs, j, z, rfl, rfl, .lst (.inl (.inl ha)) (fits_dp (n := 63) hf.2 r), fit_dp hf.1 qx, fit_shaped (d := .lst xs) (show D.fit 64 (.lst xs) = true from hf.2), fit_shaped hf.1, g1, g2, g3, f.ok rp (.int _)⟩
    · exact f.elim
  unfold mthD at f
  split at f <;> try (exact f.elim)
  · rename_i hh; exact absurd hh (by decide)
  · rename_i hh; exact absurd hh (by decide)
  · rename_i hh; exact absurd hh (by decide)
  · rename_i hh; exact absurd hh (by decide)
  · rename_i hh; exact absurd hh (by decide)
  · rename_i xs x _
    obtain ⟨a, ws, rfl, h1, _, h2, h3⟩ := q.lst_inv
    obtain ⟨u, rfl, qu⟩ := qs.one
    exact key h1 h3 qu f
  · rename_i n x _
    obtain ⟨a, rfl, ha⟩ := q.loc_inv
    obtain ⟨u, rfl, qu⟩ := qs.one
    split at f
    · rename_i xs hm
      obtain ⟨ws, h1, h2, h3⟩ := rp.lst_at hm ha
      exact key h1 h3 qu f
    · exact f.elim
end
end Z


/-! Z10: targets, what is walked, comprehensions. -/
namespace Z
open PySem L2 PySem.Spec PyProof.Rows

/-! ### targets -/
def Tg.slots : Tg → List Nat
  | .n i => [i]
  | .t is => is
theorem wipe_get {σ : L2.St} {j : Nat} : ∀ {vs : List Nat}, (L2.wipe σ vs)[j]? = if j ∈ vs then (σ[j]?).map (fun _ => none) else σ[j]?
  | [] => by rw [if_neg (by simp)]; rfl
  | v :: vs => by
    show ((L2.wipe σ vs).set v none)[j]? = _
    rw [List.getElem?_set, wipe_get (vs := vs), wipe_length]
    by_cases e : v = j
    · subst e
      rw [if_pos rfl, if_pos List.mem_cons_self]
      split
      · rename_i h; rw [List.getElem?_eq_getElem h]; rfl
      · rename_i h; rw [List.getElem?_eq_none (by omega)]; rfl
    · rw [if_neg e]
      by_cases h : j ∈ vs
      · rw [if_pos h, if_pos (List.mem_cons_of_mem _ h)]
      · rw [if_neg h, if_neg (by simp [h, Ne.symm e])]
theorem wipe_set {σ : L2.St} {i : Nat} {x : Option V} {vs : List Nat} (h : i ∈ vs) : L2.wipe (σ.set i x) vs = L2.wipe σ vs := by
  apply List.ext_getElem?
  intro j
  rw [wipe_get, wipe_get, List.getElem?_set]
  by_cases hj : j ∈ vs
  · rw [if_pos hj, if_pos hj]
    split
    · rename_i e; subst e
      split
      · rename_i l; rw [List.getElem?_eq_getElem l]; rfl
      · rename_i l; rw [List.getElem?_eq_none (by omega)]
    · rfl
  · rw [if_neg hj, if_neg hj, if_neg (fun e => hj (by rw [← e]; exact h))]
theorem wipe_wipe {σ : L2.St} {vs : List Nat} : L2.wipe (L2.wipe σ vs) vs = L2.wipe σ vs := by
  apply List.ext_getElem?
  intro j
  rw [wipe_get]
  by_cases hj : j ∈ vs
  · rw [if_pos hj, wipe_get, if_pos hj]
    cases σ[j]? <;> rfl
  · rw [if_neg hj]
def zG (K : PySem.W.Frag) (t : Tg) : TG := fun v σ H Q => ∃ ρ env M d env1, Rep K ρ M H ∧ RE K ρ M H env σ ∧ RD K H (Al ρ M) ρ d v ∧ asgD t d env = some env1 ∧
  ∀ σ1, RE K ρ M H env1 σ1 → (∀ own : List Nat, (∀ i ∈ t.slots, i ∈ own) → L2.wipe σ1 own = L2.wipe σ own) → Q σ1 H
def gNames : List Nat → TGs
  | [] => gNil
  | i :: r => gCons (gName i) (gNames r)
theorem gNames_rd {K : PySem.W.Frag} {ρ : Pl} {M : Sto} {H : Hp} {Q : L2.St → Hp → Prop} : ∀ {is : List Nat} {ds : List D} {vs : List V} {env env1 : En} {σ : L2.St}, RDs K H (Al ρ M) ρ ds vs → asgN is ds env = some env1 → RE K ρ M H env σ →
    (∀ σ1, RE K ρ M H env1 σ1 → (∀ own : List Nat, (∀ i ∈ is, i ∈ own) → L2.wipe σ1 own = L2.wipe σ own) → Q σ1 H) → gNames is vs σ H Q
  | [], _, _, _, _, _, .nil, e, re, q => by
    rw [asgN] at e; cases e
    exact ⟨rfl, q _ re fun _ _ => rfl⟩
  | [], _, _, _, _, _, .cons _ _, e, _, _ => by rw [asgN] at e; cases e; all_goals simp
  | _ :: _, _, _, _, _, _, .nil, e, _, _ => by rw [asgN] at e; cases e; all_goals simp
  | i :: is, _, _, _, _, _, .cons (v := v) (vs := vr) h r, e, re, q => by
    rw [asgN] at e
    refine ⟨v, vr, rfl, ?_⟩
    show gNames is vr (_ : L2.St) H Q
    refine gNames_rd r e (re.set i h) fun σ1 re1 hw => q σ1 re1 fun own ho => ?_
    rw [hw own fun j hj => ho j (List.mem_cons_of_mem _ hj), wipe_set (ho i List.mem_cons_self)]
theorem gNames_len {Q : L2.St → Hp → Prop} : ∀ {is : List Nat} {vs : List V} {σ : L2.St} {H : Hp}, gNames is vs σ H Q → vs.length = is.length
  | [], _, _, _, h => by rw [h.1]; rfl
  | i :: is, _, _, _, ⟨v, vr, e, h⟩ => by
    rw [e, List.length_cons, List.length_cons, gNames_len (is := is) (Q := Q) h]
/-- the def's names, its scope, which are cells of its own -/
structure CC where
  N : List Str
  sc : Scope
  fn : Str → Bool
structure CcOk (X : Cx) (c : CC) : Prop where
  N : X.N = c.N
  sc : X.env.scope = c.sc
  fn : X.fn = c.fn
  nd : X.N.Nodup
def locC (c : CC) (x : Str) : Bool := match c.sc.names.lookup x with
  | some .local => true
  | some .cell => c.fn x
  | _ => false
def nameC (c : CC) (i : Nat) (x : Str) : Bool := decide (c.N[i]? = some x) && locC c x
def namesC (c : CC) : List Nat → List Expr → Bool
  | [], [] => true
  | i :: is, .Name x _ :: es => nameC c i x && namesC c is es
  | _, _ => false
def tgC (c : CC) : Tg → Expr → Bool
  | .n i, .Name x _ => nameC c i x
  | .t is, .Tuple es _ _ => namesC c is es
  | _, _ => false
section
variable {X : Cx} {ca : String → Addr} {W : WX} {C : Calls} {c : CC}
theorem locC_ok (cc : CcOk X c) {x : Str} (h : locC c x = true) : Loc X.env.scope x ∧ (X.fn x = true ∨ X.env.scope.names.lookup x = some .local) := by
  unfold locC at h
  rw [cc.fn, cc.sc]
  split at h
  · rename_i e; exact ⟨.inl e, .inr e⟩
  · rename_i e; exact ⟨.inr e, .inl h⟩
  · cases h
theorem pg_nameZ (cc : CcOk X c) {i : Nat} {x : Str} {pos : Pos} (h : nameC c i x = true) : PG X (.Name x pos) (gName i) := by
  unfold nameC at h
  rw [Bool.and_eq_true] at h
  obtain ⟨h1, h2⟩ := locC_ok cc h.2
  exact pg_name cc.nd (by rw [cc.N]; exact of_decide_eq_true h.1) h1 h2
theorem pgs_namesZ (cc : CcOk X c) : ∀ {is : List Nat} {es : List Expr}, namesC c is es = true → PGs X es (gNames is) ∧ (assignEach es X.env).length = is.length ∧ (assignEach es X.env).findIdx? (·.1) = none
  | [], [], _ => ⟨pgs_nil, rfl, rfl⟩
  | [], e :: _, h => by unfold namesC at h; cases h
  | _ :: _, [], h => by unfold namesC at h; cases h
  | i :: is, e :: es, h => by
    cases e <;> try (unfold namesC at h; cases h; done)
    rename_i x pos
    unfold namesC at h
    rw [Bool.and_eq_true] at h
    obtain ⟨h1, h2, h3⟩ := pgs_namesZ cc h.2
    refine ⟨pgs_cons (pg_nameZ cc h.1) h1 rfl, ?_, ?_⟩
    · show (_ :: assignEach es X.env).length = _
      rw [List.length_cons, h2]; rfl
    · show ((false, _) :: assignEach es X.env).findIdx? _ = none
      rw [List.findIdx?_cons, h3]; rfl
theorem pg_z (cc : CcOk X c) (hc : X.calm = true) {t : Tg} {tg : Expr} (h : tgC c t tg = true) : PG X tg (zG X.K t) := by
  cases t with
  | n i =>
    cases tg <;> try (unfold tgC at h; cases h; done)
    rename_i x pos
    have g := pg_nameZ (pos := pos) cc h
    refine ⟨fun pins s σ H v u Q I r ⟨ρ, env, M, d, env1, rp, re, q, e, k⟩ => g.run pins s σ H v u Q I r ?_⟩
    cases e
    exact k _ (re.set i q) fun own ho => wipe_set (ho i List.mem_cons_self)
  | t is =>
    cases tg <;> try (unfold tgC at h; cases h; done)
    rename_i es kk pos
    obtain ⟨h1, h2, h3⟩ := pgs_namesZ cc (show namesC c is es = true from h)
    have g := pg_tup (pos := pos) (k := kk) hc h1 h2 h3
    refine ⟨fun pins s σ H v u Q I r ⟨ρ, env, M, d, env1, rp, re, q, e, k⟩ => g.run pins s σ H v u Q I r ?_⟩
    cases d <;> try (cases e; done)
    · obtain ⟨a, vs, rfl, g1, g2, g3⟩ := q.tup_inv
      have hn := gNames_rd g3 e re k
      exact ⟨a, vs, rfl, g1, gNames_len hn, hn⟩
    · obtain ⟨a, vs, rfl, g1, g2, g3⟩ := q.pr_inv
      have hn := gNames_rd g3 e re k
      exact ⟨a, vs, rfl, g1, gNames_len hn, hn⟩
end
/-! ### what is walked -/
/-- items by an iterator -/
def rIt (K : PySem.W.Frag) : Rl (List D) L2.It := fun H al ρ ds J => ds.length ≤ sizeLine ∧ ∃ (G : Hp → Prop) (Y : Nat → Hp → V → Hp → Prop), Walk J ds.length G Y ∧ ∀ M ρ' M' H', al = Al ρ M → Wk ρ M H ρ' M' H' → Rep K ρ' M' H' →
  G H' ∧ ∀ (i : Nat) (d : D) (x : V) (H'' : Hp), ds[i]? = some d → Y i H' x H'' → Rep K ρ' M' H'' ∧ Ext ρ' M' H' ρ' M' H'' ∧ RD K H'' (Al ρ' M') ρ' d x
abbrev zI (X : Cx) (ca : String → Addr) (W : WX) (C : Calls) (it : Z.It) : TI := fun σ H R => rd X.K ca (rIt X.K) W (fun env M => evIt C it env M) σ H R
theorem walk_zipT {K : PySem.W.Frag} {a b : Addr} {xs ys : List V} {n : Nat} (hn : n = min xs.length ys.length) : Walk (RZ.ItzT K a b) n (fun H => SqT K H a xs ∧ SqT K H b ys) (YPair (fun i => xs[i]?) (fun i => ys[i]?)) := by
  subst hn
  constructor
  · intro i _ hi q
    have h1 : i < xs.length := by omega
    have h2 : i < ys.length := by omega
    exact ⟨xs, ys, xs[i], ys[i], q.1, q.2, by simp [h1], by simp [h2]⟩
  · intro _ q
    exact ⟨xs, ys, q.1, q.2, by omega⟩
  · intro i H v H' _ q y
    obtain ⟨T, x, z, h1, h2, h3, h4, h5⟩ := y
    exact ⟨T, x, z, h1, h2, h3, h4 xs q.1, h5 ys q.2⟩
section
variable {K : PySem.W.Frag} {ca : String → Addr} {W : WX} {σ : L2.St} {ρ : Pl} {M : Sto} {H : Hp} {Q : VK} {x y : V} {dx dy d : D} {vs ws : List V} {ds es : List D} {a b : Addr}
theorem rIt_list (h : H a = some (.lst vs)) (n : ¬ Al ρ M a) (hz : vs.length ≤ sizeLine) (r : RDs K H (Al ρ M) ρ ds vs) : rIt K H (Al ρ M) ρ ds (Itl K a) := by
  refine ⟨by rw [r.length]; exact hz, (fun H => SqL K H a vs), YAt vs, by rw [r.length]; exact walk_list, fun M0 ρ' M' H' e x rp => ?_⟩
  rw [e] at r n
  refine ⟨.of (x.keep _ _ h not_lst n).1, fun i d v H'' hd y => ?_⟩
  obtain ⟨rfl, hy⟩ := y
  obtain ⟨u, h1, h2⟩ := r.get hd
  rw [h1] at hy; cases hy
  exact ⟨rp, .refl, h2.wk x⟩
theorem rIt_scr (h : RD K H (Al ρ M) ρ (.scr ds) x) : ∃ a, x = .ref a ∧ (∃ xs, SqL K H a xs) ∧ rIt K H (Al ρ M) ρ ds (Itl K a) := by
  have go : ∀ (a : Addr) (vs : List V), vs.length ≤ sizeLine → RDs K H (Al ρ M) ρ ds vs → (∀ M0 ρ' M' H', Al ρ M = Al ρ M0 → Wk ρ M0 H ρ' M' H' → SqL K H' a vs) → rIt K H (Al ρ M) ρ ds (Itl K a) := by
    intro a vs hz r hs
    refine ⟨by rw [r.length]; exact hz, (fun H => SqL K H a vs), YAt vs, by rw [r.length]; exact walk_list, fun M0 ρ' M' H' e x rp => ?_⟩
    refine ⟨hs M0 ρ' M' H' e x, fun i d v H'' hd y => ?_⟩
    obtain ⟨rfl, hy⟩ := y
    rw [e] at r
    obtain ⟨u, h1, h2⟩ := r.get hd
    rw [h1] at hy; cases hy
    exact ⟨rp, .refl, h2.wk x⟩
  cases h with
  | scr h n z r => exact ⟨_, rfl, ⟨_, .inl h⟩, go _ _ z r fun M0 ρ' M' H' e x => by rw [e] at n; exact .inl (x.rd h n).1⟩
  | scrK h z r => exact ⟨_, rfl, ⟨_, .inr h⟩, go _ _ z r fun M0 ρ' M' H' e x => .inr h⟩
theorem rIt_tup (h : RD K H (Al ρ M) ρ (.tup ds) x) : ∃ a, x = .ref a ∧ (∃ xs, SqT K H a xs) ∧ rIt K H (Al ρ M) ρ ds (Itt K a) := by
  have go : ∀ (a : Addr) (vs : List V), vs.length ≤ sizeLine → RDs K H (Al ρ M) ρ ds vs → (∀ M0 ρ' M' H', Al ρ M = Al ρ M0 → Wk ρ M0 H ρ' M' H' → SqT K H' a vs) → rIt K H (Al ρ M) ρ ds (Itt K a) := by
    intro a vs hz r hs
    refine ⟨by rw [r.length]; exact hz, (fun H => SqT K H a vs), YAt vs, by rw [r.length]; exact walk_tup, fun M0 ρ' M' H' e x rp => ?_⟩
    refine ⟨hs M0 ρ' M' H' e x, fun i d v H'' hd y => ?_⟩
    obtain ⟨rfl, hy⟩ := y
    rw [e] at r
    obtain ⟨u, h1, h2⟩ := r.get hd
    rw [h1] at hy; cases hy
    exact ⟨rp, .refl, h2.wk x⟩
  cases h with
  | tup h n z r =>
    obtain ⟨o, h, _⟩ := h
    exact ⟨_, rfl, ⟨_, .inl (.inr ⟨o, h⟩)⟩, go _ _ z r fun M0 ρ' M' H' e x => by rw [e] at n; exact .inl (.inr ⟨o, (x.keep _ _ h not_frz n).1⟩)⟩
  | tupK h1 h2 h3 h4 h5 z r => exact ⟨_, rfl, ⟨_, .inr ⟨_, _, _, h1, h2.1, h3, h4, h5⟩⟩, go _ _ z r fun M0 ρ' M' H' e x => .inr ⟨_, _, _, h1, h2.1, h3, h4, h5⟩⟩
theorem rIt_str {z : Str} (hz : fitLen z.length = true) : rIt K H (Al ρ M) ρ (z.cps.toList.map fun c => .str ⟨#[c]⟩) (Its z) := by
  have hl : (z.cps.toList.map fun c => D.str ⟨#[c]⟩).length = z.cps.size := by rw [List.length_map, Array.length_toList]
  refine ⟨by rw [hl]; exact sz_of hz, _, _, by rw [hl]; exact walk_str, fun M0 ρ' M' H' e x rp => ⟨trivial, fun i d v H'' hd y => ?_⟩⟩
  obtain ⟨rfl, c, hc, rfl⟩ := y
  rw [List.getElem?_map, Array.getElem?_toList, hc] at hd
  cases hd
  exact ⟨rp, .refl, .str _⟩
theorem rng_get : ∀ {n i : Nat} {lo : Int} {d : D}, (rngD lo n)[i]? = some d → d = .int (lo + i)
  | 0, _, _, _, h => by rw [rngD] at h; simp at h
  | n + 1, 0, lo, d, h => by rw [rngD] at h; simp at h; rw [← h]; simp
  | n + 1, i + 1, lo, d, h => by
    rw [rngD, List.getElem?_cons_succ] at h
    rw [rng_get h]
    congr 1
    push_cast
    omega
theorem rng_len : ∀ {n : Nat} {lo : Int}, (rngD lo n).length = n
  | 0, _ => rfl
  | n + 1, lo => by rw [rngD, List.length_cons, rng_len]
theorem rIt_rng {lo : Int} {n : Nat} (hn : n ≤ sizeLine) : rIt K H (Al ρ M) ρ (rngD lo n) (Itr lo n) := by
  refine ⟨by rw [rng_len]; exact hn, _, _, by rw [rng_len]; exact walk_range, fun M0 ρ' M' H' e x rp => ⟨trivial, fun i d v H'' hd y => ?_⟩⟩
  obtain ⟨rfl, rfl⟩ := y
  rw [rng_get hd]
  exact ⟨rp, .refl, .int _⟩
theorem pair_new {ρ' : Pl} {M' : Sto} {H' : Hp} {u w : V} {du dw : D} {T : Addr} (rp : Rep K ρ' M' H') (hT : H' T = none) (q1 : RD K H' (Al ρ' M') ρ' du u) (q2 : RD K H' (Al ρ' M') ρ' dw w) :
    Rep K ρ' M' (upd H' T (.tup [u, w])) ∧ Ext ρ' M' H' ρ' M' (upd H' T (.tup [u, w])) ∧ RD K (upd H' T (.tup [u, w])) (Al ρ' M') ρ' (.pr [du, dw]) (.ref T) :=
  rp.newP hT (by show 2 ≤ sizeLine; rw [sizeLine_eq]; decide) (.cons q1 (.cons q2 .nil))
theorem enm_get : ∀ {ds : List D} {n i : Nat} {d : D}, (enmD n ds)[i]? = some d → ∃ e, ds[i]? = some e ∧ d = .pr [.int ((n + i : Nat) : Int), e]
  | [], _, _, _, h => by rw [enmD] at h; simp at h
  | x :: r, n, 0, d, h => by rw [enmD] at h; simp at h; exact ⟨x, rfl, h.symm⟩
  | x :: r, n, i + 1, d, h => by
    rw [enmD, List.getElem?_cons_succ] at h
    obtain ⟨e, h1, h2⟩ := enm_get h
    exact ⟨e, h1, by rw [h2, show n + 1 + i = n + (i + 1) by omega]⟩
theorem enm_len : ∀ {ds : List D} {n : Nat}, (enmD n ds).length = ds.length
  | [], _ => rfl
  | x :: r, n => by rw [enmD, List.length_cons, List.length_cons, enm_len]
theorem rIt_enm (h : H a = some (.lst vs)) (n : ¬ Al ρ M a) (hz : vs.length ≤ sizeLine) (r : RDs K H (Al ρ M) ρ ds vs) : rIt K H (Al ρ M) ρ (enmD 0 ds) (Ite K a) := by
  refine ⟨by rw [enm_len, r.length]; exact hz, _, _, by rw [enm_len, r.length]; exact walk_enum, fun M0 ρ' M' H' e x rp => ?_⟩
  rw [e] at r n
  refine ⟨.of (x.keep _ _ h not_lst n).1, fun i d v H'' hd y => ?_⟩
  obtain ⟨T, u, w, rfl, h2, rfl, h4, h5⟩ := y
  obtain ⟨de, g1, rfl⟩ := enm_get hd
  obtain ⟨u', k1, k2⟩ := r.get g1
  have h5 : vs[i]? = some w := h5
  rw [k1] at h5; cases h5
  cases h4
  rw [Nat.zero_add]
  exact pair_new rp h2 (.int _) (k2.wk x)
theorem zip_get : ∀ {ds es : List D} {i : Nat} {d : D}, (zipD ds es)[i]? = some d → ∃ e f, ds[i]? = some e ∧ es[i]? = some f ∧ d = .pr [e, f]
  | [], _, _, _, h => by rw [zipD] at h; simp at h; all_goals simp
  | _ :: _, [], _, _, h => by rw [zipD] at h; simp at h; all_goals simp
  | x :: r, y :: s, 0, d, h => by rw [zipD] at h; simp at h; exact ⟨x, y, rfl, rfl, h.symm⟩
  | x :: r, y :: s, i + 1, d, h => by
    rw [zipD, List.getElem?_cons_succ] at h
    obtain ⟨e, f, h1, h2, h3⟩ := zip_get h
    exact ⟨e, f, h1, h2, h3⟩
theorem zip_len : ∀ {ds es : List D}, (zipD ds es).length = min ds.length es.length
  | [], _ => by rw [zipD]; simp; all_goals simp
  | _ :: _, [] => by rw [zipD]; simp; all_goals simp
  | x :: r, y :: s => by rw [zipD, List.length_cons, List.length_cons, List.length_cons, zip_len]; omega
theorem rIt_zipT (hx : RD K H (Al ρ M) ρ (.tup ds) x) (hy : RD K H (Al ρ M) ρ (.tup es) y) : ∃ a b xs ys, x = .ref a ∧ y = .ref b ∧ SqT K H a xs ∧ SqT K H b ys ∧ rIt K H (Al ρ M) ρ (zipD ds es) (RZ.ItzT K a b) := by
  have key : ∀ {x : V} {ds : List D}, RD K H (Al ρ M) ρ (.tup ds) x → ∃ a vs, x = .ref a ∧ SqT K H a vs ∧ vs.length ≤ sizeLine ∧ RDs K H (Al ρ M) ρ ds vs ∧ ∀ M0 ρ' M' H', Al ρ M = Al ρ M0 → Wk ρ M0 H ρ' M' H' → SqT K H' a vs := by
    intro x ds h
    cases h with
    | tup h n z r =>
      obtain ⟨o, h, _⟩ := h
      exact ⟨_, _, rfl, .inl (.inr ⟨o, h⟩), z, r, fun M0 ρ' M' H' e x => by rw [e] at n; exact .inl (.inr ⟨o, (x.keep _ _ h not_frz n).1⟩)⟩
    | tupK h1 h2 h3 h4 h5 z r => exact ⟨_, _, rfl, .inr ⟨_, _, _, h1, h2.1, h3, h4, h5⟩, z, r, fun M0 ρ' M' H' e x => .inr ⟨_, _, _, h1, h2.1, h3, h4, h5⟩⟩
  obtain ⟨a, vs, rfl, ha, hz, r, sa⟩ := key hx
  obtain ⟨b, ws, rfl, hb, hz', r', sb⟩ := key hy
  refine ⟨a, b, vs, ws, rfl, rfl, ha, hb, by rw [zip_len, r.length]; omega, _, _, walk_zipT (by rw [zip_len, r.length, r'.length]), fun M0 ρ' M' H' e x rp => ?_⟩
  refine ⟨⟨sa M0 ρ' M' H' e x, sb M0 ρ' M' H' e x⟩, fun i d v H'' hd y => ?_⟩
  rw [e] at r r'
  obtain ⟨T, u, w, rfl, h2, rfl, h4, h5⟩ := y
  have h4 : vs[i]? = some u := h4
  have h5 : ws[i]? = some w := h5
  obtain ⟨de, df, g1, g2, rfl⟩ := zip_get hd
  obtain ⟨u', k1, k2⟩ := r.get g1
  obtain ⟨w', k3, k4⟩ := r'.get g2
  rw [k1] at h4; cases h4
  rw [k3] at h5; cases h5
  exact pair_new rp h2 (k2.wk x) (k4.wk x)
theorem rIt_zip (h : H a = some (.lst vs)) (n : ¬ Al ρ M a) (hz : vs.length ≤ sizeLine) (r : RDs K H (Al ρ M) ρ ds vs) (h' : H b = some (.lst ws)) (n' : ¬ Al ρ M b) (r' : RDs K H (Al ρ M) ρ es ws) : rIt K H (Al ρ M) ρ (zipD ds es) (Itz K a b) := by
  refine ⟨by rw [zip_len, r.length]; omega, _, _, walk_zip (by rw [zip_len, r.length, r'.length]), fun M0 ρ' M' H' e x rp => ?_⟩
  rw [e] at r n r' n'
  refine ⟨⟨.of (x.keep _ _ h not_lst n).1, .of (x.keep _ _ h' not_lst n').1⟩, fun i d v H'' hd y => ?_⟩
  obtain ⟨T, u, w, rfl, h2, rfl, h4, h5⟩ := y
  obtain ⟨de, df, g1, g2, rfl⟩ := zip_get hd
  obtain ⟨u', k1, k2⟩ := r.get g1
  obtain ⟨w', k3, k4⟩ := r'.get g2
  have h4 : vs[i]? = some u := h4
  have h5 : ws[i]? = some w := h5
  rw [k1] at h4; cases h4
  rw [k3] at h5; cases h5
  exact pair_new rp h2 (k2.wk x) (k4.wk x)
end
end Z


/-! Z11: what is walked (rules), comprehensions. -/
namespace Z
open PySem L2 PySem.Spec PyProof.Rows

/-- a list, a tuple, a text: whichever it is -/
def iAnyZ (K : PySem.W.Frag) (te : TE) : TI := fun σ H R => te σ H fun x H1 => (∃ a, x = .ref a ∧ (∃ xs, SqL K H1 a xs) ∧ R (Itl K a) H1) ∨ (∃ a, x = .ref a ∧ (∃ xs, SqT K H1 a xs) ∧ R (Itt K a) H1) ∨ ∃ z, x = .str z ∧ R (Its z) H1
section
variable {X : Cx} {ca : String → Addr} {W : WX} {C : Calls} {a b c : E} {pa pb pc tg : Expr} {pos apos p : Pos} {es : Es} {ps : List Expr} {x : Str}
theorem iter_new {pins : List (Addr × Obj)} {σ : L2.St} {H : Hp} {s : Shared} {R : L2.It → Hp → Prop} {J : L2.It} {tn : Nat → Heap → Prop} {tg : Expr} {o : Obj} {M : Model} (I : Inv X pins σ H s) (T : Turn X.prog X.w X.K tg J [s.heap.objs.size] s.heap.objs.size tn)
    (st : tn 0 (s.heap.push o)) (q : R J H) : PIE X pins σ tg R (.ref s.heap.objs.size) { s with heap := s.heap.push o } := by
  refine ⟨s.heap.objs.size, [s.heap.objs.size], tn, J, H, rfl, I.kept (t' := s.toks) fun b o e => Heap.get?_push_of_some _ e, T, st, ?_, q⟩
  intro b hb
  cases (List.mem_singleton.mp hb)
  exact I.fpOk (Nat.le_refl _) (I.hok.fresh (Nat.le_refl _))
theorem pi_anyZ {te : TE} (he : PE X pa te) : PI X tg pa (iAnyZ X.K te) := by
  constructor
  intro pins s σ H R I h
  refine thn (he.run pins s σ H _ I h) ?_
  rintro v s1 ⟨x, H1, I1, r1, q1⟩
  rcases q1 with ⟨a, rfl, ⟨xs, hq⟩, q⟩ | ⟨a, rfl, ⟨xs, hq⟩, q⟩ | ⟨z, rfl, q⟩
  · cases r1
    obtain ⟨its, rv, pl, hz⟩ := I1.list hq
    exact wpAny_pyIter_list pl.isList (iter_new (M := model X.prog X.w) I1 (turn_list a _) ⟨_, Heap.get?_push_size _ rfl, rfl, rfl⟩ q)
  · cases r1
    obtain ⟨its, rv, pl, hz⟩ := I1.tuple hq
    have ht : s1.heap.IsTuple a its.toArray := pl
    exact wpAny_pyIter_tuple ht (iter_new (M := model X.prog X.w) I1 (turn_tuple a _) ⟨_, Heap.get?_push_size _ rfl, rfl, rfl⟩ q)
  · obtain ⟨t, rfl⟩ := r1
    cases hw : z.cps.all (· < 128) with
    | false => exact wpAny_pyIter_wide hw (pi_one (tk := s1.toks) I1 _ (turn_str _ z t "str_iterator" (.inr rfl)) ⟨_, Heap.get?_push_size _ rfl, rfl, rfl⟩ q)
    | true => exact wpAny_pyIter_ascii hw (pi_one (tk := s1.toks) I1 _ (turn_str _ z t "str_ascii_iterator" (.inl rfl)) ⟨_, Heap.get?_push_size _ rfl, rfl, rfl⟩ q)
theorem pi_imp {u v : TI} (h : PI X tg pa u) (i : ∀ σ H R, v σ H R → u σ H R) : PI X tg pa v := ⟨fun pins s σ H R I q => h.run pins s σ H R I (i _ _ _ q)⟩
theorem zi_sq (ha : PE X pa (zE X ca W C a)) : PI X tg pa (zI X ca W C (.sq a)) := by
  refine pi_imp (pi_anyZ ha) fun σ H R h => ?_
  obtain ⟨ρ, env, M, rp, re, f⟩ := h
  dsimp only [evIt] at f
  refine ⟨ρ, env, M, rp, re, (f.bind (R1 := rDD X.K)).imp ?_⟩
  rintro x H1 ⟨ρ1, M1, d1, rp1, x1, q1, f1⟩
  cases d1 with
  | str s =>
    dsimp only [walkD] at f1
    cases hf : fitLen s.length with
    | false => rw [if_neg (by rw [hf]; decide)] at f1; exact f1.elim
    | true =>
      rw [if_pos hf] at f1
      rw [q1.str_inv]
      exact .inr (.inr ⟨s, rfl, f1.ok rp1 (rIt_str hf)⟩)
  | tup xs =>
    obtain ⟨a, rfl, h1, h2⟩ := rIt_tup q1
    exact .inr (.inl ⟨a, rfl, h1, f1.ok rp1 h2⟩)
  | lst xs =>
    obtain ⟨a, vs, rfl, h1, hn, h2, h3⟩ := q1.lst_inv
    exact .inl ⟨a, rfl, ⟨vs, .of h1⟩, f1.ok rp1 (rIt_list h1 hn h2 h3)⟩
  | scr xs =>
    obtain ⟨a, rfl, h1, h2⟩ := rIt_scr q1
    exact .inl ⟨a, rfl, h1, f1.ok rp1 h2⟩
  | _ => exact f1.elim
theorem zi_rng (hg : Gl X "range") (hm : X.mg "range" = none) (hp : ps.all plainX = true) (ha : PA X ps (zEs X ca W C es)) (hl : ps.length = 1 ∨ ps.length = 2) (he : es.len = ps.length) : PI X tg (.Call (.Name "range" p) ps [] pos) (zI X ca W C (.rng es)) := by
  have fin : ∀ σ H R, zI X ca W C (.rng es) σ H R → zEs X ca W C es σ H fun vs H1 => vs.length = es.len ∧ ((∃ j : Int, vs = [.int j] ∧ -(2 ^ 62) ≤ j ∧ j < 2 ^ 62 ∧ R (Itr 0 j.toNat) H1) ∨ ∃ i j : Int, vs = [.int i, .int j] ∧ (-(2 ^ 62) ≤ i ∧ i < 2 ^ 62 ∧ -(2 ^ 62) ≤ j ∧ j < 2 ^ 62) ∧ R (Itr i (j - i).toNat) H1) := by
    intro σ H R ⟨ρ, env, M, rp, re, f⟩
    dsimp only [evIt] at f
    refine ⟨ρ, env, M, rp, re, (f.bindE (R1 := rDs X.K)).imp ?_⟩
    rintro vs H1 ⟨ρ1, M1, d1, e1, rp1, x1, q1, f1⟩
    refine ⟨by rw [← q1.length]; exact evEs_len e1, ?_⟩
    split at f1
    · rename_i n
      obtain ⟨hz, f1⟩ := f1.ites
      obtain ⟨v, rfl, q⟩ := q1.one
      have hn : n.natAbs ≤ 1000000 := of_decide_eq_true hz
      exact .inl ⟨n, by rw [q.int_inv], by omega, by omega, f1.ok rp1 (rIt_rng (by rw [sizeLine_eq]; omega))⟩
    · rename_i lo hi
      obtain ⟨hz, f1⟩ := f1.ites
      rw [Bool.and_eq_true] at hz
      have h1 : lo.natAbs ≤ 1000000 := of_decide_eq_true hz.1
      have h2 : hi.natAbs ≤ 1000000 := of_decide_eq_true hz.2
      obtain ⟨v, w, rfl, q, q'⟩ := q1.two
      exact .inr ⟨lo, hi, by rw [q.int_inv, q'.int_inv], by omega, f1.ok rp1 (rIt_rng (by rw [sizeLine_eq]; omega))⟩
    · exact f1.elim
  match ps, hl with
  | [q], _ =>
    rw [List.all_cons, Bool.and_eq_true] at hp
    have s1 := starEach_plain (es := []) (env := X.env) hp.1
    refine pi_imp (pi_range1 hg hm ha s1) fun σ H R h => ?_
    obtain ⟨ρ, env, M, rp, re, f⟩ := fin σ H R h
    refine ⟨ρ, env, M, rp, re, f.imp fun vs H1 ⟨hv, h1⟩ => ?_⟩
    rcases h1 with ⟨j, e, h1⟩ | ⟨i, j, e, h1⟩
    · exact ⟨j, e, h1⟩
    · rw [e, he] at hv; cases hv
  | [q, q2], _ =>
    rw [List.all_cons, Bool.and_eq_true, List.all_cons, Bool.and_eq_true] at hp
    have s2 := starEach_plain (es := []) (env := X.env) hp.2.1
    have s1 := starEach_plain (es := [q2]) (env := X.env) hp.1
    rw [s2] at s1
    refine pi_imp (pi_range2 hg hm ha s1 s2) fun σ H R h => ?_
    obtain ⟨ρ, env, M, rp, re, f⟩ := fin σ H R h
    refine ⟨ρ, env, M, rp, re, f.imp fun vs H1 ⟨hv, h1⟩ => ?_⟩
    rcases h1 with ⟨j, e, h1⟩ | ⟨i, j, e, h1⟩
    · rw [e, he] at hv; cases hv
    · exact ⟨i, j, e, h1⟩
theorem zi_enm {elts : List Expr} {kk : Nat} {tpos : Pos} (hg : Gl X "enumerate") (hm : X.mg "enumerate" = none) (hp : plainX pa = true) (ha : PE X pa (zE X ca W C a)) : PI X (.Tuple elts kk tpos) (.Call (.Name "enumerate" p) [pa] [] pos) (zI X ca W C (.enm a)) := by
  refine pi_imp (pi_enum hg hm (za_cons (es := .nil) hp ha za_nil) (starEach_plain hp)) fun σ H R h => ?_
  obtain ⟨ρ, env, M, rp, re, f⟩ := h
  dsimp only [evIt] at f
  refine ⟨ρ, env, M, rp, re, ?_⟩
  dsimp only [evEs]
  rw [show (evE C a env M).bind (fun x M1 => (Res.ok [] M1 : Res (List D)).bind fun xs M2 => .ok (x :: xs) M2) = (evE C a env M).bind (fun x M1 => .ok [x] M1) from rfl]
  have g := f.bind (R1 := rDD X.K)
  cases he : evE C a env M with
  | ok d1 M1 =>
    rw [he] at g
    intro ρ' H' b rp' x' q'
    obtain ⟨v, rfl, qv⟩ := RDs.one q'
    obtain ⟨ρ1, M1', a1, rp1, x1, q1, f1⟩ := g ρ' H' v rp' x' qv
    cases a1 <;> first | exact f1.elim | skip
    obtain ⟨l, vs, rfl, h1, hn, h2, h3⟩ := q1.lst_inv
    exact ⟨l, vs, rfl, .of h1, f1.ok rp1 (rIt_enm h1 hn h2 h3)⟩
  | exc c p M1 => rw [he] at g; exact g
  | fail => rw [he] at g; exact g
theorem zi_zip {elts : List Expr} {kk : Nat} {tpos : Pos} (hg : Gl X "zip") (hm : X.mg "zip" = none) (hp : plainX pa = true) (hp' : plainX pb = true) (ha : PE X pa (zE X ca W C a)) (hb : PE X pb (zE X ca W C b)) :
    PI X (.Tuple elts kk tpos) (.Call (.Name "zip" p) [pa, pb] [] pos) (zI X ca W C (.zip a b)) := by
  have s2 := starEach_plain (es := []) (env := X.env) hp'
  have s1 := starEach_plain (es := [pb]) (env := X.env) hp
  refine pi_imp (RZ.pi_zipA hg hm (pa_cons ha (pa_cons hb pa_nil s2) s1) s1 (by rw [s2]; rfl)) fun σ H R h => ?_
  obtain ⟨ρ, env, M, rp, re, f⟩ := h
  dsimp only [evIt] at f
  refine ⟨ρ, env, M, rp, re, (f.bind (R1 := rDD X.K)).imp ?_⟩
  rintro x H1 ⟨ρ1, M1, d1, rp1, x1, q1, f1⟩
  refine ⟨ρ1, env, M1, rp1, re.ext x1, (f1.bind (R1 := rDD X.K)).imp ?_⟩
  rintro y H2 ⟨ρ2, M2, d2, rp2, x2, q2, f2⟩
  have q1 := RD.ext x2 q1
  split at f2
  · obtain ⟨l, vs, rfl, h1, hn, h2, h3⟩ := q1.lst_inv
    obtain ⟨l', ws, rfl, h1', hn', h2', h3'⟩ := q2.lst_inv
    exact ⟨l, l', vs, ws, rfl, .inl ⟨.of h1, .of h1', f2.ok rp2 (rIt_zip h1 hn h2 h3 h1' hn' h3')⟩⟩
  · obtain ⟨l, l', vs, ws, rfl, rfl, h1, h2, h3⟩ := rIt_zipT q1 q2
    exact ⟨l, l', vs, ws, rfl, .inr ⟨h1, h2, f2.ok rp2 h3⟩⟩
  · exact f2.elim
end
end Z


/-! Z12: comprehensions. -/
namespace Z
open PySem L2 PySem.Spec PyProof.Rows

def W0 : WX := fun _ _ _ _ => False
/-- the place that is hidden, shown again -/
def Pl.un (ρ : Pl) (h : List Addr) : Pl := ⟨ρ.l, h⟩
section
variable {K : PySem.W.Frag} {ρ1 ρ2 ρ3 : Pl} {M1 M2 M3 : Sto} {H1 H2 H3 : Hp} {D : Addr}
theorem al_un {b : Addr} (hh : ρ2.hid = D :: ρ1.hid) : Al ρ2 M2 b ↔ (b = D ∨ Al (ρ2.un ρ1.hid) M2 b) := by
  constructor
  · rintro (h | h)
    · rw [hh] at h
      rcases List.mem_cons.mp h with h | h
      · exact .inl h
      · exact .inr (.inl h)
    · exact .inr (.inr h)
  · rintro (h | h | h)
    · exact .inl (by rw [hh, h]; exact List.mem_cons_self)
    · exact .inl (by rw [hh]; exact List.mem_cons_of_mem _ h)
    · exact .inr h
theorem ext_un (hh : ρ2.hid = D :: ρ1.hid) (hD : H1 D = none) (x : Ext ρ1 M1 H1 (ρ2.un ρ1.hid) M2 H2) (y : Ext ρ2 M2 H2 ρ3 M3 H3) : ρ3.hid = D :: ρ1.hid ∧ Ext ρ1 M1 H1 (ρ3.un ρ1.hid) M3 H3 := by
  have h3 : ρ3.hid = D :: ρ1.hid := y.hid.trans hh
  refine ⟨h3, ?_, rfl, fun b hb => ?_, fun b o hb tb nb => ?_⟩
  · obtain ⟨t, ht⟩ := x.pre
    obtain ⟨u, hu⟩ := y.pre
    exact ⟨t ++ u, by show ρ3.l = _; rw [hu, show ρ2.l = _ from ht, List.append_assoc]⟩
  · exact (y.hk b (by rw [hh]; exact List.mem_cons_of_mem _ hb)).trans (x.hk b hb)
  · obtain ⟨g1, g2⟩ := x.keep b o hb tb nb
    have hne : b ≠ D := by rintro rfl; rw [hD] at hb; cases hb
    obtain ⟨k1, k2⟩ := y.keep b o g1 tb fun z => by
      rcases (al_un hh).mp z with z | z
      · exact hne z
      · exact g2 z
    exact ⟨k1, fun z => k2 ((al_un h3).mpr (.inr z))⟩
theorem ext_atD {o : HO} (rp : Rep K ρ1 M1 H1) (hD : H1 D = none) (x : Ext ρ1 M1 H1 (ρ2.un ρ1.hid) M2 H2) : Ext ρ1 M1 H1 (ρ2.un ρ1.hid) M2 (upd H2 D o) := by
  refine ⟨x.pre, rfl, fun b hb => ?_, fun b w hb tb nb => ?_⟩
  · obtain ⟨_, u, hu⟩ := rp.hid b hb
    rw [upd_ne (ne_of_none hu hD)]; exact x.hk b hb
  · rw [upd_ne (ne_of_none hb hD)]; exact x.keep b w hb tb nb
theorem rep_atD {xs : List V} (hm : D ∈ ρ2.hid) (rp : Rep K ρ2 M2 H2) : Rep K ρ2 M2 (upd H2 D (.lst xs)) ∧ Wk ρ2 M2 H2 ρ2 M2 (upd H2 D (.lst xs)) := by
  have w : Wk ρ2 M2 H2 ρ2 M2 (upd H2 D (.lst xs)) := ⟨fun _ _ h => h, fun b u hb _ nb => ⟨by rw [upd_ne (fun e => nb (.inl (by rw [e]; exact hm)))]; exact hb, nb⟩⟩
  refine ⟨⟨rp.len, rp.nd, fun i a u h1 h2 => (rp.obj i a u h1 h2).wk w (upd_ne fun e => ?_), fun b hb => ⟨(rp.hid b hb).1, ?_⟩, rp.tab.same (fun _ _ h => h) (fun _ _ h => h) fun b u hb hc => ?_⟩, w⟩
  · exact (rp.hid D hm).1 (by rw [← e]; exact List.mem_of_getElem? h1)
  · by_cases e : b = D
    · subst e; exact ⟨xs, upd_same⟩
    · rw [upd_ne e]; exact (rp.hid b hb).2
  · obtain ⟨_, ys, hy⟩ := rp.hid D hm
    rw [upd_ne (fun e => by rw [e, hy] at hb; cases hb; exact cod_lst hc)]; exact hb
/-- without what was made -/
def off (H : Hp) (D : Addr) : Hp := fun b => if b = D then none else H b
theorem off_upd {o : HO} (h : H2 D = some o) : upd (off H2 D) D o = H2 := by
  funext b
  by_cases e : b = D
  · subst e; rw [upd_same, h]
  · rw [upd_ne e]; unfold off; rw [if_neg e]
theorem rep_off (hh : ρ2.hid = D :: ρ1.hid) (r1 : Rep K ρ1 M1 H1) (hD : H1 D = none) (rp : Rep K ρ2 M2 H2) : Rep K (ρ2.un ρ1.hid) M2 (off H2 D) ∧ Wk ρ2 M2 H2 (ρ2.un ρ1.hid) M2 (off H2 D) := by
  have hm : D ∈ ρ2.hid := by rw [hh]; exact List.mem_cons_self
  have w : Wk ρ2 M2 H2 (ρ2.un ρ1.hid) M2 (off H2 D) := ⟨fun _ _ h => h, fun b u hb _ nb => ⟨by unfold off; rw [if_neg (fun e => nb (.inl (by rw [e]; exact hm)))]; exact hb, fun z => nb ((al_un hh).mpr (.inr z))⟩⟩
  refine ⟨⟨rp.len, rp.nd, fun i a u h1 h2 => (rp.obj i a u h1 h2).wk w ?_, fun b hb => ?_, rp.tab.same (fun _ _ h => h) (fun q hq hn hb => hn (by rw [hh]; exact List.mem_cons_of_mem _ hb)) fun b u hb hc => ?_⟩, w⟩
  · unfold off
    rw [if_neg fun e => (rp.hid D hm).1 (by rw [← e]; exact List.mem_of_getElem? h1)]
  · obtain ⟨g1, g2⟩ := rp.hid b (by rw [hh]; exact List.mem_cons_of_mem _ hb)
    obtain ⟨_, u, hu⟩ := r1.hid b hb
    refine ⟨g1, ?_⟩
    unfold off
    rw [if_neg (ne_of_none hu hD)]
    exact g2
  · obtain ⟨_, ys, hy⟩ := rp.hid D hm
    unfold off
    rw [if_neg (fun e => by rw [e, hy] at hb; cases hb; exact cod_lst hc)]; exact hb
end
theorem Fi.calm {α β : Type} {K : PySem.W.Frag} {ca : String → Addr} {R : Rl α β} {W : WX} {σ : L2.St} {ρ : Pl} {M : Sto} {H : Hp} {Q : β → Hp → Prop} {r : Res α} (h : ∀ a M1, r = .ok a M1 → Fi K ca R W σ ρ M H (.ok a M1) Q) (n : ∃ a M1, r = .ok a M1) : Fi K ca R W σ ρ M H r Q := by
  obtain ⟨a, M1, e⟩ := n
  rw [e]; exact h a M1 e
theorem calm_inv {α β γ : Type} {K : PySem.W.Frag} {ca : String → Addr} {R : Rl α β} {W : WX} {σ : L2.St} {ρ : Pl} {M : Sto} {H : Hp} {Q : β → Hp → Prop} {r : Res γ} {f : γ → Sto → Res α} (h : Fi K ca R W σ ρ M H (r.calm.bind f) Q) : ∃ a M1, r = .ok a M1 ∧ Fi K ca R W σ ρ M H (f a M1) Q := by
  cases r with
  | ok a M1 => exact ⟨a, M1, rfl, h⟩
  | exc c p M1 => exact h.elim
  | fail => exact h.elim
abbrev zC (X : Cx) (ca : String → Addr) (W : WX) (C : Calls) (c : Oe) : TT := rd X.K ca rId W fun env M => evC C c env M
section
variable {X : Cx} {ca : String → Addr} {W : WX} {C : Calls}
theorem pts_non : PTs X [] (zC X ca W C .non) := ⟨fun pins s σ H Q I ⟨ρ, env, M, rp, re, f⟩ => pts_nil.run pins s σ H Q I (by dsimp only [evC] at f; exact Fi.ok (R := rId) rp rfl f)⟩
theorem pts_som {e : E} {pe : Expr} (h : PT X pe (zT X ca W C e)) : PTs X [pe] (zC X ca W C (.som e)) := ⟨fun pins s σ H Q I h' => (pts_one h).run pins s σ H Q I h'⟩
theorem comp_core {m : Bool} {el : E} {t : Tg} {it : Z.It} {c : Oe} {own : List Nat} (hsl : ∀ i ∈ t.slots, i ∈ own) :
    ∀ σ H Q, zE X ca W C (.comp m el t it c own) σ H Q → tLc (zI X ca W C it) (zG X.K t) (zC X ca W0 C c) (zE X ca W0 C el) own σ H Q := by
  intro σ H Q ⟨ρ, env, M, rp, re, f⟩
  dsimp only [evE] at f
  refine ⟨ρ, env, M, rp, re, (f.bind (R1 := rIt X.K)).imp ?_⟩
  rintro J H1 ⟨ρ1, M1, items, rp1, x1, ⟨hz, G, Y, w, st⟩, f1⟩
  intro D hD
  let P : Nat → Hp → Prop := fun i H => ∃ ρ2 M2 accD accV, ρ2.hid = D :: ρ1.hid ∧ Ext ρ1 M1 H1 (ρ2.un ρ1.hid) M2 H ∧ Rep X.K ρ2 M2 H ∧ H D = some (.lst accV) ∧ RDs X.K H (Al ρ2 M2) ρ2 accD accV ∧ accV.length ≤ i ∧
    Fi X.K ca (rDD X.K) W σ ρ1 M1 H1 ((compGo t (fun env M => evC C c env M) (fun env M => evE C el env M) (wipeE env own) (items.drop i) M2).bind fun ys M3 => newList m (accD ++ ys) M3) Q
  have wk1 : ∀ {ρ2 : Pl} {M2 : Sto} {H2 : Hp}, ρ2.hid = D :: ρ1.hid → Ext ρ1 M1 H1 (ρ2.un ρ1.hid) M2 H2 → Wk ρ1 M1 H1 ρ2 M2 H2 := by
    intro ρ2 M2 H2 hh x
    refine ⟨fun i a h => x.at (ρ' := ρ2.un ρ1.hid) h, fun b o hb tb nb => ?_⟩
    obtain ⟨g1, g2⟩ := x.keep b o hb tb nb
    refine ⟨g1, fun z => ?_⟩
    rcases (al_un hh).mp z with z | z
    · rw [z, hD] at hb; cases hb
    · exact g2 z
  refine lc_it w (Pv := P) ?_ ?_ ?_ ?_
  · -- the start
    refine ⟨⟨ρ1.l, D :: ρ1.hid⟩, M1, [], [], rfl, ?_, ?_, upd_same, .nil, Nat.le_refl _, by rw [List.drop_zero]; exact f1⟩
    · exact ext_atD (ρ2 := ⟨ρ1.l, D :: ρ1.hid⟩) rp1 hD .refl
    · have w1 : Wk ρ1 M1 H1 ⟨ρ1.l, D :: ρ1.hid⟩ M1 (upd H1 D (.lst [])) := wk1 (ρ2 := ⟨ρ1.l, D :: ρ1.hid⟩) rfl (ext_atD (ρ2 := ⟨ρ1.l, D :: ρ1.hid⟩) rp1 hD .refl)
      refine ⟨rp1.len, rp1.nd, fun i a u h1 h2 => ?_, fun b hb => ?_, rp1.tab.same (fun _ _ h => h) (fun q hq hn hb => ?_) fun b u hb hc => by rw [upd_ne (ne_of_none hb hD)]; exact hb⟩
      · obtain ⟨q, hq⟩ := rp1.there h1
        exact (rp1.obj i a u h1 h2).wk w1 (upd_ne (ne_of_none hq hD))
      · rcases List.mem_cons.mp hb with e | hb
        · subst e
          exact ⟨rp1.off hD, _, upd_same⟩
        · obtain ⟨g1, u, g2⟩ := rp1.hid b hb
          exact ⟨g1, u, by rw [upd_ne (ne_of_none g2 hD)]; exact g2⟩
      · rcases List.mem_cons.mp hb with e | hb
        · obtain ⟨ps, g⟩ := rp1.tab.at hq
          rw [e, hD] at g; cases g
        · exact hn hb
  · rintro i H2 hi ⟨ρ2, M2, accD, accV, hh, x2, rp2, hDv, qs, hl, f2⟩
    exact (st M1 ρ2 M2 H2 rfl (wk1 hh x2) rp2).1
  · -- a turn
    rintro i x H2 H2' hi ⟨ρ2, M2, accD, accV, hh, x2, rp2, hDv, qs, hl, f2⟩ y
    have hgi : items[i]? = some items[i] := List.getElem?_eq_getElem hi
    obtain ⟨rp3, x3, qx⟩ := (st M1 ρ2 M2 H2 rfl (wk1 hh x2) rp2).2 i items[i] x H2' hgi y
    rw [List.drop_eq_getElem_cons hi] at f2
    unfold compGo at f2
    split at f2
    · exact f2.elim
    rename_i env1 he
    have re3 : RE X.K ρ2 M2 H2' (wipeE env own) (L2.wipe σ own) := (((re.ext x1).wk (wk1 hh x2)).ext x3).wipe own
    refine ⟨ρ2, wipeE env own, M2, items[i], env1, rp3, re3, qx, he, fun σ1 re1 hw => ⟨by rw [hw own hsl, wipe_wipe], ?_⟩⟩
    rw [bind_assoc] at f2
    obtain ⟨b, M3, hc, f3⟩ := calm_inv f2
    refine ⟨ρ2, env1, M2, rp3, re1, ?_⟩
    show Fi X.K ca rId W0 σ1 ρ2 M2 H2' (evC C c env1 M2) _
    rw [hc]
    intro ρ3 H3 b' rp4 x4 eb
    cases eb
    obtain ⟨hh3, x23⟩ := ext_un hh hD (ext_un hh hD x2 x3).2 x4
    cases b with
    | false =>
      rw [if_neg (by decide)]
      rw [if_neg (by decide)] at f3
      exact ⟨ρ3, M3, accD, accV, hh3, x23, rp4, by rw [x4.hk D (by rw [hh]; exact List.mem_cons_self), x3.hk D (by rw [hh]; exact List.mem_cons_self)]; exact hDv, (qs.ext x3).ext x4, by omega, f3⟩
    | true =>
      rw [if_pos rfl]
      rw [if_pos rfl, bind_assoc] at f3
      obtain ⟨yd, M4, hy, f4⟩ := calm_inv f3
      refine ⟨ρ3, env1, M3, rp4, re1.ext x4, ?_⟩
      show Fi X.K ca (rDD X.K) W0 σ1 ρ3 M3 H3 (evE C el env1 M3) _
      rw [hy]
      intro ρ4 H4 yv rp5 x5 qy
      obtain ⟨hh4, x24⟩ := ext_un hh3 hD x23 x5
      have hm4 : D ∈ ρ4.hid := by rw [hh4]; exact List.mem_cons_self
      have hD4 : H4 D = some (.lst accV) := by
        rw [x5.hk D (by rw [hh3]; exact List.mem_cons_self), x4.hk D (by rw [hh]; exact List.mem_cons_self), x3.hk D (by rw [hh]; exact List.mem_cons_self)]; exact hDv
      obtain ⟨rp6, w6⟩ := rep_atD (xs := accV ++ [yv]) hm4 rp5
      refine ⟨accV, hD4, by omega, ρ4, M4, accD ++ [yd], accV ++ [yv], hh4, ext_atD rp1 hD x24, rp6, upd_same, ((((qs.ext x3).ext x4).ext x5).append (.cons qy .nil)).wk w6, by rw [List.length_append]; show _ + 1 ≤ _; omega, ?_⟩
      rw [bind_assoc] at f4
      simp only [bind_ok] at f4
      simp only [List.append_assoc, List.singleton_append]
      exact f4
  · -- the end
    rintro H2 ⟨ρ2, M2, accD, accV, hh, x2, rp2, hDv, qs, hl, f2⟩
    rw [List.drop_length] at f2
    unfold compGo at f2
    rw [bind_ok, List.append_nil] at f2
    obtain ⟨rp3, w3⟩ := rep_off hh rp1 hD rp2
    have x3 : Ext ρ1 M1 H1 (ρ2.un ρ1.hid) M2 (off H2 D) := by
      refine ⟨x2.pre, rfl, fun b hb => ?_, fun b o hb tb nb => ?_⟩
      · obtain ⟨_, u, hu⟩ := rp1.hid b hb
        unfold off
        rw [if_neg (ne_of_none hu hD)]; exact x2.hk b hb
      · unfold off
        rw [if_neg (ne_of_none hb hD)]; exact x2.keep b o hb tb nb
    have e := newList_rd (xs := accD) (vs := accV) (m := m) rp3 (qs.wk w3) (by omega) (f2.go x3) D (by unfold off; rw [if_pos rfl])
    rw [off_upd hDv] at e
    exact e
end
end Z


/-! Z13: the last rules for expressions. -/
namespace Z
open PySem L2 PySem.Spec PyProof.Rows
theorem rep_more {K : PySem.W.Frag} {ρ : Pl} {M : Sto} {H1 H2 : Hp} (rp : Rep K ρ M H1) (h : ∀ b o, H1 b = some o → H2 b = some o) : Rep K ρ M H2 ∧ Ext ρ M H1 ρ M H2 := by
  have hq : ∀ b ∈ ρ.hid, H2 b = H1 b := fun b hb => by
    obtain ⟨_, u, hu⟩ := rp.hid b hb
    rw [hu, h b _ hu]
  have x : Ext ρ M H1 ρ M H2 := ⟨⟨[], by simp⟩, rfl, hq, fun b o hb _ nb => ⟨h b o hb, nb⟩⟩
  refine ⟨⟨rp.len, rp.nd, fun i a u h1 h2 => ?_, fun b hb => ⟨(rp.hid b hb).1, by rw [hq b hb]; exact (rp.hid b hb).2⟩, rp.tab.same (fun _ _ h => h) (fun _ _ h => h) fun b o hb _ => h b o hb⟩, x⟩
  obtain ⟨w, hw⟩ := rp.there h1
  exact (rp.obj i a u h1 h2).ext x (by rw [hw, h a w hw])
section
variable {X : Cx} {ca : String → Addr} {W : WX} {C : Calls} {a b c : E} {pa pb pc : Expr} {pos apos p p1 p2 p3 : Pos} {es : Es} {ps : List Expr} {x : Str}
theorem z_sset {m : Bool} (hc : X.calm = true) (hg : Gl X "sorted") (hm : X.mg "sorted" = none) (hg2 : Gl X "set") (hm2 : X.mg "set" = none) (ha : PE X pa (zE X ca W C a)) (hp : plainX pa = true) :
    PE X (.Call (.Name "sorted" p1) [.Call (.Name "set" p2) [pa] [] p3] [] pos) (zE X ca W C (.bi .sset m (.cons a .nil))) := by
  refine pe_imp (pe_sset hc hg hm hg2 hm2 ha (starEach_plain hp)) fun σ H Q h => ?_
  obtain ⟨ρ, env, M, rp, re, f⟩ := h
  dsimp only [evE, evEs] at f
  rw [bind_assoc] at f
  refine ⟨ρ, env, M, rp, re, (f.bind (R1 := rDD X.K)).imp ?_⟩
  rintro x H1 ⟨ρ1, M1, d1, rp1, x1, q1, f1⟩
  rw [bind_ok, bind_ok] at f1
  unfold biD at f1
  split at f1 <;> try (exact f1.elim)
  all_goals try (rename_i hh; exact absurd hh (by decide))
  all_goals try (rename_i hh _; exact absurd hh (by decide))
  rename_i xs hb he
  cases he
  obtain ⟨bs, e, f1⟩ := f1.ofO
  obtain ⟨hl, f1⟩ : bs.length < 2000 ∧ Fi X.K ca (rDD X.K) W σ ρ1 M1 H1 (newList m ((sortStr (dedupStr bs)).map .str) M1) Q := by
    by_cases hl : bs.length < 2000
    · rw [if_pos hl] at f1; exact ⟨hl, f1⟩
    · rw [if_neg hl] at f1; exact f1.elim
  obtain ⟨l, vs, rfl, h1, hn, h2, h3⟩ := q1.lst_inv
  rw [strs_rd h3 e] at h1
  refine sset_go rfl (.of h1) hl fun H2 r hk hr => ?_
  obtain ⟨rp2, x2⟩ := rep_more rp1 hk
  have hz : ((sortStr (dedupStr bs)).map V.str).length ≤ sizeLine := by
    have h4 : ∀ l : List Str, (dedupStr l).length ≤ l.length := by
      intro l
      induction l with
      | nil => exact Nat.le_refl _
      | cons y r ih =>
        rw [dedupStr]
        split
        · rw [List.length_cons]; omega
        · rw [List.length_cons, List.length_cons]; omega
    have h5 := h4 bs
    rw [List.length_map, (sortStr_perm _).length_eq, sizeLine_eq]
    omega
  exact newList_rd rp2 (rds_strs _) hz (f1.go x2) r hr
/-- dict(zip(keys, values)) -/
theorem z_dzip {m : Bool} {es : Es} {pb : Expr} (hc : X.calm = true) (hg : Gl X "dict") (hm : X.mg "dict" = none) (hg2 : Gl X "zip") (hm2 : X.mg "zip" = none) (ha : PA X [pa, pb] (zEs X ca W C es)) (hp : [pa, pb].all plainX = true) :
    PE X (.Call (.Name "dict" p1) [.Call (.Name "zip" p2) [pa, pb] [] p3] [] pos) (zE X ca W C (.bi .dzip m es)) := by
  have hp' := hp
  rw [List.all_cons, Bool.and_eq_true] at hp'
  refine pe_imp (pe_dictzip hc hg hm hg2 hm2 ha (starEach_plain hp'.1) (backTo_plain hp'.2)) fun σ H Q h => ?_
  obtain ⟨ρ, env, M, rp, re, f⟩ := h
  dsimp only [evE] at f
  refine ⟨ρ, env, M, rp, re, (f.bind (R1 := rDs X.K)).imp ?_⟩
  rintro xs H1 ⟨ρ1, M1, d1, rp1, x1, q1, f1⟩
  unfold biD at f1
  split at f1 <;> try (exact f1.elim)
  all_goals try (rename_i hh; exact absurd hh (by decide))
  all_goals try (rename_i hh _; exact absurd hh (by decide))
  rename_i us ws hb
  obtain ⟨ks, e, f1⟩ := f1.ofO
  obtain ⟨u, v, rfl, qu, qv⟩ := q1.two
  obtain ⟨a, vs, rfl, h1, _, h2, h3⟩ := qu.lst_inv
  obtain ⟨b, ys, rfl, k1, _, k2, k3⟩ := qv.lst_inv
  have e2 := keysL_rd h3 e
  rw [e2] at h1
  refine ⟨a, b, ks, ys, rfl, .of h1, .of k1, fun p hp2 => ?_⟩
  have hz : (mergeK [] (ks.zip ys)).length ≤ sizeLine := by
    have h4 := length_mergeK (ks.zip ys) []
    rw [List.length_nil, Nat.zero_add, List.length_zip] at h4
    have : ys.length ≤ sizeLine := k2
    omega
  obtain ⟨r1, x2, e1⟩ := rp1.newD hp2 hz ((zip_rks (ks := ks) k3).merge .nil)
  exact f1 _ _ _ r1 x2 (.loc e1)
theorem items_rds {K : PySem.W.Frag} {H H2 : Hp} {ρ : Pl} {M : Sto} (rp : Rep K ρ M H) (x : Ext ρ M H ρ M H2) : ∀ {kvs : List (Key × D)} {ws : List (Key × V)} {ps : List Addr}, RKs K H (Al ρ M) ρ kvs ws → Paired (fun q kv => TupF H2 q [kV kv.1, kv.2]) ps ws → (∀ q ∈ ps, H q = none) →
    RDs K H2 (Al ρ M) ρ (kvs.map fun kv => .tup [keyD kv.1, kv.2]) (ps.map V.ref)
  | [], _, _, .nil, u, _ => by cases u; exact .nil
  | (k, d) :: kvs, _, ps, .cons q r, u, hn => by
    cases u with | cons t u =>
    refine .cons (.tup t (rp.noal (hn _ List.mem_cons_self)) (by rw [sizeLine_eq]; simp) (.cons ?_ (.cons (q.ext x) .nil))) (items_rds rp x r u fun b hb => hn b (List.mem_cons_of_mem _ hb))
    cases k with
    | inl i => exact .int i
    | inr s => exact .str s
theorem paired_len {α β : Type} {F : α → β → Prop} : ∀ {l₁ : List α} {l₂ : List β}, Paired F l₁ l₂ → l₁.length = l₂.length
  | _, _, .nil => rfl
  | _, _, .cons _ t => by rw [List.length_cons, List.length_cons, paired_len t]
/-- list(d.items()) -/
theorem z_ditems {m : Bool} (hc : X.calm = true) (hg : Gl X "list") (hm : X.mg "list" = none) (ha : PE X pa (zE X ca W C a)) (hb : baseX pa = true) (hl : (apos.endLine == p2.line) = true) :
    PE X (.Call (.Name "list" p1) [.Call (.Attribute pa "items" apos) [] [] p2] [] pos) (zE X ca W C (.bi .ditems m (.cons a .nil))) := by
  refine pe_imp (pe_listItems hc hg hm ha (base_plain hb) hl) fun σ H Q h => ?_
  obtain ⟨ρ, env, M, rp, re, f⟩ := h
  dsimp only [evE, evEs] at f
  rw [bind_assoc] at f
  refine ⟨ρ, env, M, rp, re, (f.bind (R1 := rDD X.K)).imp ?_⟩
  rintro x H1 ⟨ρ1, M1, d1, rp1, x1, q1, f1⟩
  rw [bind_ok, bind_ok] at f1
  unfold biD at f1
  split at f1 <;> try (exact f1.elim)
  all_goals try (rename_i hh; exact absurd hh (by decide))
  all_goals try (rename_i hh _; exact absurd hh (by decide))
  rename_i n hb2 he
  cases he
  obtain ⟨a, rfl, ha⟩ := q1.loc_inv
  split at f1
  · rename_i kvs hm
    obtain ⟨ws, h1, h2, h3⟩ := rp1.dct_at hm ha
    refine ⟨a, ws, rfl, h1, fun H2 ps p hk hp hn hp2 => ?_⟩
    obtain ⟨rp2, x2⟩ := rep_more rp1 hk
    refine newList_rd rp2 (items_rds rp1 x2 h3 hp hn) ?_ (f1.go x2) p hp2
    rw [List.length_map, paired_len hp]
    exact h2
  · exact f1.elim
theorem rng_rds {K : PySem.W.Frag} {H : Hp} {al : Addr → Prop} {ρ : Pl} : ∀ (n : Nat) (lo : Int), RDs K H al ρ (rngD lo n) ((List.range n).map fun i => V.int (lo + (i : Nat)))
  | 0, _ => .nil
  | n + 1, lo => by
    rw [rngD, List.range_succ_eq_map, List.map_cons, List.map_map]
    have h := rng_rds (K := K) (H := H) (al := al) (ρ := ρ) n (lo + 1)
    have e : (List.range n).map ((fun i : Nat => V.int (lo + (i : Nat))) ∘ Nat.succ) = (List.range n).map fun i : Nat => V.int (lo + 1 + (i : Nat)) := by
      apply List.map_congr_left
      intro i _
      show V.int (lo + ((i + 1 : Nat) : Int)) = V.int (lo + 1 + (i : Int))
      congr 1
      omega
    rw [e]
    have z : lo + ((0 : Nat) : Int) = lo := by omega
    rw [z]
    exact .cons (.int lo) h
theorem rgOk_of {lo hi : Int} (h1 : lo.natAbs ≤ 1000000) (h2 : hi.natAbs ≤ 1000000) : RgOk lo hi := ⟨by omega, by omega, by omega, by omega, by omega⟩
/-- list(range(n)) -/
theorem z_lrange1 {m : Bool} (hc : X.calm = true) (hg : Gl X "list") (hm : X.mg "list" = none) (hg2 : Gl X "range") (hm2 : X.mg "range" = none) (ha : PE X pa (zE X ca W C a)) (hp : plainX pa = true) :
    PE X (.Call (.Name "list" p1) [.Call (.Name "range" p2) [pa] [] p3] [] pos) (zE X ca W C (.bi .lrange m (.cons a .nil))) := by
  refine pe_imp (pe_listRg hc hg hm (prg_1 hg2 hm2 ha (starEach_plain hp)) rfl) fun σ H Q h => ?_
  obtain ⟨ρ, env, M, rp, re, f⟩ := h
  dsimp only [evE, evEs] at f
  rw [bind_assoc] at f
  refine ⟨ρ, env, M, rp, re, (f.bind (R1 := rDD X.K)).imp ?_⟩
  rintro x H1 ⟨ρ1, M1, d1, rp1, x1, q1, f1⟩
  rw [bind_ok, bind_ok] at f1
  unfold biD at f1
  split at f1 <;> try (exact f1.elim)
  all_goals try (rename_i hh; exact absurd hh (by decide))
  all_goals try (rename_i hh _; exact absurd hh (by decide))
  · rename_i n hb2 he
    cases he
    obtain ⟨hf, f1⟩ : fitLen n.natAbs = true ∧ Fi X.K ca (rDD X.K) W σ ρ1 M1 H1 (newList m (rngD 0 n.toNat) M1) Q := by
      by_cases hf : fitLen n.natAbs = true
      · rw [if_pos hf] at f1; exact ⟨hf, f1⟩
      · rw [if_neg hf] at f1; exact f1.elim
    have hf := of_decide_eq_true hf
    refine ⟨n, q1.int_inv, rgOk_of (by decide) hf, fun q hq => ?_⟩
    have e : rgV 0 n = (List.range n.toNat).map fun i => V.int (0 + (i : Nat)) := by unfold rgV; rw [Int.sub_zero]
    rw [e]
    exact newList_rd rp1 (rng_rds _ _) (by rw [List.length_map, List.length_range, sizeLine_eq]; omega) f1 q hq
  · rename_i hh; cases hh
theorem z_lrange2 {m : Bool} (hc : X.calm = true) (hg : Gl X "list") (hm : X.mg "list" = none) (hg2 : Gl X "range") (hm2 : X.mg "range" = none) (ha : PE X pa (zE X ca W C a)) (hb : PE X pb (zE X ca W C b)) (hp : plainX pa = true) (hp2 : plainX pb = true) :
    PE X (.Call (.Name "list" p1) [.Call (.Name "range" p2) [pa, pb] [] p3] [] pos) (zE X ca W C (.bi .lrange m (.cons a (.cons b .nil)))) := by
  have hps : [pb].all plainX = true := by rw [List.all_cons, hp2]; rfl
  refine pe_imp (pe_listRg hc hg hm (prg_2 hg2 hm2 ha hb (starEach_plain hp) (starEach_plain hp2) (backTo_plain hps)) rfl) fun σ H Q h => ?_
  obtain ⟨ρ, env, M, rp, re, f⟩ := h
  dsimp only [evE, evEs] at f
  rw [bind_assoc] at f
  refine ⟨ρ, env, M, rp, re, (f.bind (R1 := rDD X.K)).imp ?_⟩
  rintro x H1 ⟨ρ1, M1, d1, rp1, x1, q1, f1⟩
  rw [bind_assoc, bind_assoc] at f1
  refine ⟨ρ1, env, M1, rp1, re.ext x1, (f1.bind (R1 := rDD X.K)).imp ?_⟩
  rintro y H2 ⟨ρ2, M2, d2, rp2, x2, q2, f2⟩
  rw [bind_ok, bind_ok, bind_ok] at f2
  unfold biD at f2
  split at f2 <;> try (exact f2.elim)
  all_goals try (rename_i hh; exact absurd hh (by decide))
  all_goals try (rename_i hh _; exact absurd hh (by decide))
  · rename_i hh; cases hh
  · rename_i lo hi hb2 he
    cases he
    obtain ⟨hf, f2⟩ : (fitLen lo.natAbs && fitLen hi.natAbs) = true ∧ Fi X.K ca (rDD X.K) W σ ρ2 M2 H2 (newList m (rngD lo (hi - lo).toNat) M2) Q := by
      by_cases hf : (fitLen lo.natAbs && fitLen hi.natAbs) = true
      · rw [if_pos hf] at f2; exact ⟨hf, f2⟩
      · rw [if_neg hf] at f2; exact f2.elim
    rw [Bool.and_eq_true] at hf
    have hf1 := of_decide_eq_true hf.1
    have hf2 := of_decide_eq_true hf.2
    refine ⟨lo, hi, q1.int_inv, q2.int_inv, rgOk_of hf1 hf2, fun q hq => ?_⟩
    exact newList_rd rp2 (rng_rds _ _) (by rw [List.length_map, List.length_range, sizeLine_eq]; omega) f2 q hq
/-- the kinds' names -/
def tysC : List Ty → List Expr → Bool
  | [], [] => true
  | t :: ts, .Name x _ :: qs => decide (x = tyN t) && decide (t ≠ .non) && tysC ts qs
  | _, _ => false
theorem pa_tys : ∀ {ts : List Ty} {qs : List Expr}, (∀ t ∈ ts, Gl X (tyN t) ∧ X.mg (tyN t) = none) → tysC ts qs = true → PA X qs (fun _ H Q => Q (ts.map fun t => .ty (tyS t)) H) ∧ ∀ t ∈ ts, t ≠ .non
  | [], [], _, _ => ⟨pa_imp pa_nil fun _ _ _ h => h, fun _ h => nomatch h⟩
  | [], _ :: _, _, h => by unfold tysC at h; cases h
  | _ :: _, [], _, h => by unfold tysC at h; cases h
  | t :: ts, e :: qs, hg, h => by
    cases e <;> try (unfold tysC at h; cases h; done)
    unfold tysC at h
    rw [Bool.and_eq_true, Bool.and_eq_true] at h
    obtain ⟨⟨h1, h2⟩, h3⟩ := h
    have h1 := of_decide_eq_true h1
    have h2 := of_decide_eq_true h2
    obtain ⟨g1, g2⟩ := pa_tys (fun u hu => hg u (List.mem_cons_of_mem _ hu)) h3
    subst h1
    obtain ⟨k1, k2⟩ := hg t List.mem_cons_self
    refine ⟨pa_imp (pa_cons (pe_bltn k1 k2 (ty_boot t h2) (v := .ty (tyS t)) rfl (ty_name t).1 (ty_name t).2) g1) fun σ H Q h => h, fun u hu => ?_⟩
    rcases List.mem_cons.mp hu with rfl | hu
    · exact h2
    · exact g2 u hu
theorem paired_tys : ∀ ts : List Ty, Paired ClsV (ts.map fun t => V.ty (tyS t)) (ts.map fun t => Value.type (tyS t))
  | [] => .nil
  | _ :: r => .cons (.ty _) (paired_tys r)
theorem z_isiT {ts : List Ty} {qs : List Expr} {k : Nat} (hg : Gl X "isinstance") (hm : X.mg "isinstance" = none) (ht : ∀ t ∈ ts, Gl X (tyN t) ∧ X.mg (tyN t) = none) (hq : tysC ts qs = true) (hl : fitLen ts.length = true) (ha : PE X pa (zE X ca W C a)) (hp : plainX pa = true) :
    PE X (.Call (.Name "isinstance" p1) [pa, .Tuple qs k p2] [] pos) (zE X ca W C (.isi a false ts)) := by
  obtain ⟨g1, g2⟩ := pa_tys ht hq
  refine pe_imp (pe_callB call_isiT hg hm rfl (pa_cons ha (pa_cons (pe_tup g1) pa_nil) (starEach_plain hp)) (by decide) (by decide) (starEach_plain hp) rfl) fun σ H Q h => rd1 (R := fun Q x H => (ts.map fun t => V.ty (tyS t)).length ≤ sizeLine ∧ ∀ p, H p = none → rIsiT X.K [x, .ref p] (upd H p (.tup (ts.map fun t => .ty (tyS t)))) Q) h fun ρ M H x dx rp qx f => ?_
  obtain ⟨u, e, f⟩ := f.ofO
  refine ⟨by rw [List.length_map]; exact sz_of hl, fun p hp => ?_⟩
  obtain ⟨rp2, x2⟩ := rp.val (o := .tup (ts.map fun t => .ty (tyS t))) hp
  refine ⟨x, p, ts.map fun t => .ty (tyS t), .type (tyS u), ts.map fun t => .type (tyS t), ts.any (subTy u), rfl, upd_same, ?_, tyx_rd rp2 (RD.ext x2 qx) e, kit_anyZ _ u ts g2, f _ _ _ rp2 x2 (.bl _)⟩
  exact paired_tys ts
/-! ### comprehensions -/
theorem z_comp {m : Bool} {el : E} {t : Tg} {it : Z.It} {cd : Oe} {own : List Nat} {ownL : List (Str × Nat)} {elt tg iter : Expr} {ifs : List Expr} {scope : Scope} (hc : X.calm = true) (hN : X.N.Nodup) (hi : PI X tg iter (zI X ca W C it))
    (ok : BlkOk X.N X.env.scope scope ownL) (ho : ownL.map (·.2) = own) (hsl : ∀ i ∈ t.slots, i ∈ own) (hp : plainX iter = true)
    (hg : ∀ (s : Shared) (H : Hp) (D : Addr) (cl : List (Str × Addr)) (fp : List Addr), PG (X.blk s H scope (compEnvC scope cl D X.env) fp) tg (zG X.K t))
    (ht : ∀ (s : Shared) (H : Hp) (D : Addr) (cl : List (Str × Addr)) (fp : List Addr), PTs (X.blk s H scope (compEnvC scope cl D X.env) fp) ifs (zC X ca W0 C cd))
    (he : ∀ (s : Shared) (H : Hp) (D : Addr) (cl : List (Str × Addr)) (fp : List Addr), PE (X.blk s H scope (compEnvC scope cl D X.env) fp) elt (zE X ca W0 C el)) :
    PE X (.ListComp elt [⟨tg, iter, ifs, 0⟩] scope pos) (zE X ca W C (.comp m el t it cd own)) := by
  subst ho
  exact pe_imp (pe_lc hc hN hi ok hg ht he (fold_plain hp)) (comp_core hsl)
end
section
variable {J : L2.It} {n : Nat} {G : Hp → Prop} {Y : Nat → Hp → V → Hp → Prop}
/-- a loop by its walk -/
theorem loop_it (w : Walk J n G Y) {S : Hp → (V → Hp → Prop) → Prop} {Qd : Hp → Prop} {H1 : Hp} (B : (Hp → Prop) → V → Hp → Prop) (Pv : Nat → Hp → Prop) (h0 : Pv 0 H1) (hG : ∀ i H, i ≤ n → Pv i H → G H)
    (hs : ∀ i x H H', i < n → Pv i H → Y i H x H' → B (Pv (i + 1)) x H') (hd : ∀ H, Pv n H → Qd H) :
    ∃ W : Nat → Nat → Hp → Prop, (∃ m, W 0 m H1) ∧ ∀ i m H, W i m H → (J.stop i H ∧ Qd H) ∨ (J.go i H ∧ ∃ Nx : Hp → Prop, (∀ H', Nx H' → ∃ m', m' < m ∧ W (i + 1) m' H') ∧ ∀ x H', J.yld i H x H' → B Nx x H') := by
  refine ⟨fun i m H => m + i = n ∧ Pv i H, ⟨n, rfl, h0⟩, ?_⟩
  rintro i m H ⟨e, p⟩
  have q := hG i H (by omega) p
  by_cases hlt : i < n
  · exact .inr ⟨w.goes i H hlt q, Pv (i + 1), fun H' p' => ⟨m - 1, by omega, by omega, p'⟩, fun x H' y => hs i x H H' hlt p (w.yields i H x H' hlt q y)⟩
  · have e : i = n := by omega
    subst e
    exact .inl ⟨w.stops H q, hd H p⟩
end
section
variable {X : Cx} {ca : String → Addr} {W : WX} {C : Calls}
theorem comp2_core {m : Bool} {el : E} {t t1 : Tg} {it it1 : Z.It} {c c1 : Oe} {own own1 : List Nat} (hsl : ∀ i ∈ t.slots, i ∈ own) (hsl1 : ∀ i ∈ t1.slots, i ∈ own1) (σ : L2.St) (H : Hp) (Q : VK)
    (h : rd X.K ca (rDD X.K) W (fun env M => (evIt C it env M).bind fun items M1 => if decide (items.length ≤ 1000) then (compGo2 t (fun env M => evC C c env M) (fun env M => evIt C it1 env M) t1 (fun env M => evC C c1 env M) (fun env M => evE C el env M) own1 (wipeE env own) items M1).bind fun ys M2 => newList m ys M2 else .fail) σ H Q) :
    tLc2 (zI X ca W C it) (zG X.K t) (zC X ca W0 C c) (zI X ca W0 C it1) (zG X.K t1) (zC X ca W0 C c1) (zE X ca W0 C el) own own1 σ H Q := by
  obtain ⟨ρ, env, M, rp, re, f⟩ := h
  refine ⟨ρ, env, M, rp, re, (f.bind (R1 := rIt X.K)).imp ?_⟩
  rintro J H1 ⟨ρ1, M1, items, rp1, x1, ⟨hz, G, Y, w, st⟩, f1⟩
  obtain ⟨hlen, f1⟩ := f1.ite
  have hlen := of_decide_eq_true hlen
  intro D hD
  let P : Nat → Hp → Prop := fun i H => ∃ ρ2 M2 accD accV, ρ2.hid = D :: ρ1.hid ∧ Ext ρ1 M1 H1 (ρ2.un ρ1.hid) M2 H ∧ Rep X.K ρ2 M2 H ∧ H D = some (.lst accV) ∧ RDs X.K H (Al ρ2 M2) ρ2 accD accV ∧ accV.length ≤ 1000 * i ∧
    Fi X.K ca (rDD X.K) W σ ρ1 M1 H1 ((compGo2 t (fun env M => evC C c env M) (fun env M => evIt C it1 env M) t1 (fun env M => evC C c1 env M) (fun env M => evE C el env M) own1 (wipeE env own) (items.drop i) M2).bind fun ys M3 => newList m (accD ++ ys) M3) Q
  have wk1 : ∀ {ρ2 : Pl} {M2 : Sto} {H2 : Hp}, ρ2.hid = D :: ρ1.hid → Ext ρ1 M1 H1 (ρ2.un ρ1.hid) M2 H2 → Wk ρ1 M1 H1 ρ2 M2 H2 := by
    intro ρ2 M2 H2 hh x
    refine ⟨fun i a h => x.at (ρ' := ρ2.un ρ1.hid) h, fun b o hb tb nb => ?_⟩
    obtain ⟨g1, g2⟩ := x.keep b o hb tb nb
    refine ⟨g1, fun z => ?_⟩
    rcases (al_un hh).mp z with z | z
    · rw [z, hD] at hb; cases hb
    · exact g2 z
  refine loop_it (S := fun _ _ => True) w (fun Nx x H' => zG X.K t x (L2.wipe σ own) H' fun σ2 H2 => L2.wipe σ2 own = L2.wipe σ own ∧ zC X ca W0 C c σ2 H2 fun b H3 =>
    if b = true then zI X ca W0 C it1 σ2 H3 fun J1 H4 => ∃ W1 : Nat → Nat → Hp → Prop, (∃ m, W1 0 m H4) ∧ ∀ j k H, W1 j k H →
      (J1.stop j H ∧ Nx H) ∨ (J1.go j H ∧ ∃ Nx1 : Hp → Prop, (∀ H', Nx1 H' → ∃ k', k' < k ∧ W1 (j + 1) k' H') ∧ ∀ x H', J1.yld j H x H' → zG X.K t1 x (L2.wipe σ2 own1) H' fun σ3 H5 => L2.wipe σ3 own1 = L2.wipe σ2 own1 ∧ zC X ca W0 C c1 σ3 H5 fun b H6 =>
        if b = true then zE X ca W0 C el σ3 H6 fun y H7 => ∃ acc, H7 D = some (.lst acc) ∧ acc.length < sizeLine ∧ Nx1 (upd H7 D (.lst (acc ++ [y]))) else Nx1 H6)
    else Nx H3) P ?_ ?_ ?_ ?_
  · refine ⟨⟨ρ1.l, D :: ρ1.hid⟩, M1, [], [], rfl, ext_atD (ρ2 := ⟨ρ1.l, D :: ρ1.hid⟩) rp1 hD .refl, ?_, upd_same, .nil, Nat.zero_le _, f1⟩
    have w1 : Wk ρ1 M1 H1 ⟨ρ1.l, D :: ρ1.hid⟩ M1 (upd H1 D (.lst [])) := wk1 (ρ2 := ⟨ρ1.l, D :: ρ1.hid⟩) rfl (ext_atD (ρ2 := ⟨ρ1.l, D :: ρ1.hid⟩) rp1 hD .refl)
    refine ⟨rp1.len, rp1.nd, fun i a u h1 h2 => ?_, fun b hb => ?_, rp1.tab.same (fun _ _ h => h) (fun q hq hn hb => ?_) fun b u hb hc => by rw [upd_ne (ne_of_none hb hD)]; exact hb⟩
    · obtain ⟨q, hq⟩ := rp1.there h1
      exact (rp1.obj i a u h1 h2).wk w1 (upd_ne (ne_of_none hq hD))
    · rcases List.mem_cons.mp hb with e | hb
      · subst e
        exact ⟨rp1.off hD, _, upd_same⟩
      · obtain ⟨g1, u, g2⟩ := rp1.hid b hb
        exact ⟨g1, u, by rw [upd_ne (ne_of_none g2 hD)]; exact g2⟩
    · rcases List.mem_cons.mp hb with e | hb
      · obtain ⟨ps, g⟩ := rp1.tab.at hq
        rw [e, hD] at g; cases g
      · exact hn hb
  · rintro i H2 hi ⟨ρ2, M2, accD, accV, hh, x2, rp2, hDv, qs, hl, f2⟩
    exact (st M1 ρ2 M2 H2 rfl (wk1 hh x2) rp2).1
  · rintro i x H2 H2' hi ⟨ρ2, M2, accD, accV, hh, x2, rp2, hDv, qs, hl, f2⟩ y
    have hgi : items[i]? = some items[i] := List.getElem?_eq_getElem hi
    obtain ⟨rp3, x3, qx⟩ := (st M1 ρ2 M2 H2 rfl (wk1 hh x2) rp2).2 i items[i] x H2' hgi y
    rw [List.drop_eq_getElem_cons hi] at f2
    unfold compGo2 at f2
    split at f2
    · exact f2.elim
    rename_i env1 he
    have re3 : RE X.K ρ2 M2 H2' (wipeE env own) (L2.wipe σ own) := (((re.ext x1).wk (wk1 hh x2)).ext x3).wipe own
    refine ⟨ρ2, wipeE env own, M2, items[i], env1, rp3, re3, qx, he, fun σ1 re1 hw => ⟨by rw [hw own hsl, wipe_wipe], ?_⟩⟩
    rw [bind_assoc] at f2
    obtain ⟨b, M3, hc, f3⟩ := calm_inv f2
    refine ⟨ρ2, env1, M2, rp3, re1, ?_⟩
    show Fi X.K ca rId W0 σ1 ρ2 M2 H2' (evC C c env1 M2) _
    rw [hc]
    intro ρ3 H3 b' rp4 x4 eb
    cases eb
    obtain ⟨hh3, x23⟩ := ext_un hh hD (ext_un hh hD x2 x3).2 x4
    have hD3 : H3 D = some (.lst accV) := by rw [x4.hk D (by rw [hh]; exact List.mem_cons_self), x3.hk D (by rw [hh]; exact List.mem_cons_self)]; exact hDv
    cases b with
    | false =>
      rw [if_neg (by decide)]
      rw [if_neg (by decide)] at f3
      exact ⟨ρ3, M3, accD, accV, hh3, x23, rp4, hD3, (qs.ext x3).ext x4, by omega, f3⟩
    | true =>
      rw [if_pos rfl]
      rw [if_pos rfl, bind_assoc] at f3
      obtain ⟨items1, M4, hy, f4⟩ := calm_inv f3
      refine ⟨ρ3, env1, M3, rp4, re1.ext x4, ?_⟩
      show Fi X.K ca (rIt X.K) W0 σ1 ρ3 M3 H3 (evIt C it1 env1 M3) _
      rw [hy]
      intro ρ4 H4 J1 rp5 x5 qy
      obtain ⟨hz1, G1, Y1, w1, st1⟩ := qy
      obtain ⟨hh4, x24⟩ := ext_un hh3 hD x23 x5
      have hD4 : H4 D = some (.lst accV) := by rw [x5.hk D (by rw [hh3]; exact List.mem_cons_self)]; exact hD3
      have re4 := (re1.ext x4).ext x5
      cases hq : decide (items1.length ≤ 1000) with
      | false => rw [hq] at f4; exact f4.elim
      | true =>
      rw [hq, if_pos rfl] at f4
      have hq := of_decide_eq_true hq
      rw [bind_assoc] at f4
      let P1 : Nat → Hp → Prop := fun j H => ∃ ρ5 M5 aD aV, ρ5.hid = D :: ρ1.hid ∧ Ext ρ1 M1 H1 (ρ5.un ρ1.hid) M5 H ∧ Wk ρ4 M4 H4 ρ5 M5 H ∧ Rep X.K ρ5 M5 H ∧ H D = some (.lst aV) ∧ RDs X.K H (Al ρ5 M5) ρ5 aD aV ∧ aV.length ≤ 1000 * i + j ∧
        Fi X.K ca (rDD X.K) W σ ρ1 M1 H1 ((compGo t1 (fun env M => evC C c1 env M) (fun env M => evE C el env M) (wipeE env1 own1) (items1.drop j) M5).bind fun ys M6 => ((compGo2 t (fun env M => evC C c env M) (fun env M => evIt C it1 env M) t1 (fun env M => evC C c1 env M) (fun env M => evE C el env M) own1 (wipeE env own) (items.drop (i + 1)) M6).bind fun zs M7 => Res.ok (ys ++ zs) M7).bind fun ys M8 => newList m (aD ++ ys) M8) Q
      refine loop_it (S := fun _ _ => True) w1 (fun Nx1 x H' => zG X.K t1 x (L2.wipe σ1 own1) H' fun σ3 H5 => L2.wipe σ3 own1 = L2.wipe σ1 own1 ∧ zC X ca W0 C c1 σ3 H5 fun b H6 =>
        if b = true then zE X ca W0 C el σ3 H6 fun y H7 => ∃ acc, H7 D = some (.lst acc) ∧ acc.length < sizeLine ∧ Nx1 (upd H7 D (.lst (acc ++ [y]))) else Nx1 H6) P1 ?_ ?_ ?_ ?_
      · exact ⟨ρ4, M4, accD, accV, hh4, x24, ⟨fun _ _ h => h, fun _ _ a _ b => ⟨a, b⟩⟩, rp5, hD4, ((qs.ext x3).ext x4).ext x5, by omega, f4⟩
      · rintro j H5 hj ⟨ρ5, M5, aD, aV, hh5, x25, k5, rp5, hD5, qs5, hl5, f5⟩
        exact (st1 M4 ρ5 M5 H5 rfl k5 rp5).1
      · rintro j x' H5 H5' hj ⟨ρ5, M5, aD, aV, hh5, x25, k5, rp5, hD5, qs5, hl5, f5⟩ y'
        have hgj : items1[j]? = some items1[j] := List.getElem?_eq_getElem hj
        obtain ⟨rp6, x6, qx6⟩ := (st1 M4 ρ5 M5 H5 rfl k5 rp5).2 j items1[j] x' H5' hgj y'
        rw [List.drop_eq_getElem_cons hj] at f5
        unfold compGo at f5
        split at f5
        · exact f5.elim
        rename_i env2 he2
        have re6 : RE X.K ρ5 M5 H5' (wipeE env1 own1) (L2.wipe σ1 own1) := ((re4.wk k5).ext x6).wipe own1
        refine ⟨ρ5, wipeE env1 own1, M5, items1[j], env2, rp6, re6, qx6, he2, fun σ3 re7 hw3 => ⟨by rw [hw3 own1 hsl1, wipe_wipe], ?_⟩⟩
        rw [bind_assoc] at f5
        obtain ⟨b, M6, hc6, f6⟩ := calm_inv f5
        refine ⟨ρ5, env2, M5, rp6, re7, ?_⟩
        show Fi X.K ca rId W0 σ3 ρ5 M5 H5' (evC C c1 env2 M5) _
        rw [hc6]
        intro ρ6 H6 b' rp7 x7 eb
        cases eb
        obtain ⟨hh6, x26⟩ := ext_un hh5 hD (ext_un hh5 hD x25 x6).2 x7
        have hD6 : H6 D = some (.lst aV) := by rw [x7.hk D (by rw [hh5]; exact List.mem_cons_self), x6.hk D (by rw [hh5]; exact List.mem_cons_self)]; exact hD5
        have k6 := (k5.trans x6.wk).trans x7.wk
        cases b with
        | false =>
          rw [if_neg (by decide)]
          rw [if_neg (by decide)] at f6
          exact ⟨ρ6, M6, aD, aV, hh6, x26, k6, rp7, hD6, (qs5.ext x6).ext x7, by omega, f6⟩
        | true =>
          rw [if_pos rfl]
          rw [if_pos rfl, bind_assoc] at f6
          obtain ⟨yd, M7, hy7, f7⟩ := calm_inv f6
          refine ⟨ρ6, env2, M6, rp7, re7.ext x7, ?_⟩
          show Fi X.K ca (rDD X.K) W0 σ3 ρ6 M6 H6 (evE C el env2 M6) _
          rw [hy7]
          intro ρ7 H7 yv rp8 x8 qy8
          obtain ⟨hh7, x27⟩ := ext_un hh6 hD x26 x8
          have hm7 : D ∈ ρ7.hid := by rw [hh7]; exact List.mem_cons_self
          have hD7 : H7 D = some (.lst aV) := by rw [x8.hk D (by rw [hh6]; exact List.mem_cons_self)]; exact hD6
          obtain ⟨rp9, w9⟩ := rep_atD (xs := aV ++ [yv]) hm7 rp8
          have hsl : aV.length < sizeLine := by rw [sizeLine_eq]; omega
          refine ⟨aV, hD7, hsl, ρ7, M7, aD ++ [yd], aV ++ [yv], hh7, ext_atD rp1 hD x27, (k6.trans x8.wk).trans w9, rp9, upd_same, ((((qs5.ext x6).ext x7).ext x8).append (.cons qy8 .nil)).wk w9, by rw [List.length_append]; show _ + 1 ≤ _; omega, ?_⟩
          rw [bind_assoc] at f7
          simp only [bind_ok, bind_assoc] at f7 ⊢
          simp only [List.append_assoc, List.singleton_append, List.cons_append, List.nil_append] at f7 ⊢
          exact f7
      · rintro H5 ⟨ρ5, M5, aD, aV, hh5, x25, k5, rp5, hD5, qs5, hl5, f5⟩
        rw [List.drop_length] at f5
        unfold compGo at f5
        simp only [bind_ok, bind_assoc, List.nil_append] at f5
        exact ⟨ρ5, M5, aD, aV, hh5, x25, rp5, hD5, qs5, by omega, f5⟩
  · rintro H2 ⟨ρ2, M2, accD, accV, hh, x2, rp2, hDv, qs, hl, f2⟩
    rw [List.drop_length] at f2
    unfold compGo2 at f2
    rw [bind_ok, List.append_nil] at f2
    obtain ⟨rp3, w3⟩ := rep_off hh rp1 hD rp2
    have x3 : Ext ρ1 M1 H1 (ρ2.un ρ1.hid) M2 (off H2 D) := by
      refine ⟨x2.pre, rfl, fun b hb => ?_, fun b o hb tb nb => ?_⟩
      · obtain ⟨_, u, hu⟩ := rp1.hid b hb
        unfold off
        rw [if_neg (ne_of_none hu hD)]; exact x2.hk b hb
      · unfold off
        rw [if_neg (ne_of_none hb hD)]; exact x2.keep b o hb tb nb
    have e := newList_rd (xs := accD) (vs := accV) (m := m) rp3 (qs.wk w3) (by rw [sizeLine_eq]; omega) (f2.go x3) D (by unfold off; rw [if_pos rfl])
    rw [off_upd hDv] at e
    exact e
end
section
variable {X : Cx} {ca : String → Addr} {W : WX} {C : Calls}
theorem z_comp2 {m : Bool} {el : E} {t t1 : Tg} {it it1 : Z.It} {cd c1 : Oe} {own own1 : List Nat} {ownL : List (Str × Nat)} {elt tg iter tg1 iter1 : Expr} {ifs ifs1 : List Expr} {scope : Scope} {pos : Pos} (hc : X.calm = true) (hN : X.N.Nodup) (hi : PI X tg iter (zI X ca W C it))
    (ok : BlkOk X.N X.env.scope scope ownL) (ho : ownL.map (·.2) = own) (hsl : ∀ i ∈ t.slots, i ∈ own) (hsl1 : ∀ i ∈ t1.slots, i ∈ own1) (hv : ∀ i ∈ own1, i ∈ own) (hp : plainX iter = true) (hp1 : plainX iter1 = true)
    (hg : ∀ (s : Shared) (H : Hp) (D : Addr) (cl : List (Str × Addr)) (fp : List Addr), PG (X.blk s H scope (compEnvC scope cl D X.env) fp) tg (zG X.K t))
    (ht : ∀ (s : Shared) (H : Hp) (D : Addr) (cl : List (Str × Addr)) (fp : List Addr), PTs (X.blk s H scope (compEnvC scope cl D X.env) fp) ifs (zC X ca W0 C cd))
    (hi1 : ∀ (s : Shared) (H : Hp) (D : Addr) (cl : List (Str × Addr)) (fp : List Addr), PI (X.blk s H scope (compEnvC scope cl D X.env) fp) tg1 iter1 (zI X ca W0 C it1))
    (hg1 : ∀ (s : Shared) (H : Hp) (D : Addr) (cl : List (Str × Addr)) (fp : List Addr), PG (X.blk s H scope (compEnvC scope cl D X.env) fp) tg1 (zG X.K t1))
    (ht1 : ∀ (s : Shared) (H : Hp) (D : Addr) (cl : List (Str × Addr)) (fp : List Addr), PTs (X.blk s H scope (compEnvC scope cl D X.env) fp) ifs1 (zC X ca W0 C c1))
    (he : ∀ (s : Shared) (H : Hp) (D : Addr) (cl : List (Str × Addr)) (fp : List Addr), PE (X.blk s H scope (compEnvC scope cl D X.env) fp) elt (zE X ca W0 C el)) :
    PE X (.ListComp elt [⟨tg, iter, ifs, 0⟩, ⟨tg1, iter1, ifs1, 0⟩] scope pos) (zE X ca W C (.comp2 m el t it cd t1 it1 c1 own own1)) := by
  subst ho
  exact pe_imp (pe_lc2 hc hN hi ok hv hg ht hi1 hg1 ht1 he (fold_plain hp) fun _ => fold_plain hp1) (comp2_core hsl hsl1)
end
end Z


/-! Zr: errors of the program's own classes are made: __init__ says super().__init__(at), self.at = at. -/
namespace Z
open PySem L2 PySem.Spec PyProof.Rows

/-- the text of such an __init__ -/
def initB : List Stmt → Bool
  | [.Expr (.Call (.Attribute (.Call (.Name s _) [] [] _) i ap) [.Name a _] [] p) _, .Assign [.Attribute (.Name b _) f _] (.Name c _) _] =>
    decide (s = "super") && decide (i = "__init__") && decide (a = "at") && decide (b = "self") && decide (f = "at") && decide (c = "at") && (ap.endLine == p.line)
  | _ => false
def initP : Arguments → Bool
  | ⟨[], [a, b], none, [], _, none, _⟩ => decide (a.arg = "self") && decide (b.arg = "at")
  | _ => false
def initSc (sc : Scope) : Bool := (match sc.kind with
    | .function => true
    | _ => false) && !sc.isCoroutine && !sc.isGenerator && decide (sc.names.lookup ("super" : Str) = some NameKind.globalImplicit) && decide (sc.names.lookup ("__class__" : Str) = some NameKind.free) && decide (sc.names.lookup ("self" : Str) = some NameKind.local) && decide (sc.names.lookup ("at" : Str) = some NameKind.local) &&
    sc.names.all fun y => !decide (y.2 = .cell) && (!decide (y.2 = .free) || decide (y.1 = "__class__"))
/-- what the module says of such a class: C its place, its name c -/
structure XcK (P : Program) (K : PySem.W.Frag) (C : Addr) : Prop where
  oex : OexC K C
  xf : XfC K C
  no : PySem.W.findIn K (.ref C) "at" = some none
  init : ∃ (fI cda cc : Addr) (qual : Str) (params : Arguments) (body : List Stmt) (scope : Scope) (kV doc pm ct oc : Value) (an od : Option Addr) (osl : Array (Option Value)),
    PySem.W.findIn K (.ref C) "__init__" = some (some (.ref fI)) ∧ PySem.W.typeIn K (.ref fI) = some (.type "function") ∧
    K.lookup fI = some ⟨oc, od, .func (PySem.W.ksFn "__init__" qual params body scope .none kV doc pm an (.ref cda) ct cc), osl⟩ ∧ PySem.W.codeIn K (.ref cda) qual = true ∧ initB body = true ∧ initP params = true ∧ initSc scope = true ∧
    (∃ (cl : Value) (dd : Option Addr) (vs : Array Value) (sl : Array (Option Value)) (file : Str) (tf : Tok), K.lookup cda = some ⟨cl, dd, .fields vs, sl⟩ ∧ vs[2]? = some (.str file tf) ∧ ((P.main.file : Str) == file) = true) ∧
    (∃ (cl : Value) (dd : Option Addr) (sl : Array (Option Value)), K.lookup cc = some ⟨cl, dd, .cell (some (.ref C)), sl⟩)
  sup : PySem.W.ks_superIn K C C "__init__" = some (some (.builtin "ValueError.__init__"))
  self : PySem.W.mroIn K C (.ref C) = some true
  ve : PySem.W.subIn K (.ref C) (.type "ValueError") = some true
  any : PySem.W.nsIn K cStatics "thirdparty.any" = some none
  top : (P.main.scope.names.lookup ("super" : Str)).isSome = false
/-- the context of such a body -/
def iCx (CX : CXT) (P : Program) (w : World) (K : PySem.W.Frag) (mg : Str → Option Value) (base : Heap) (qual : Str) (scope : Scope) (f : Addr) (cd : Value) (cc : Addr) (A : Around) (outer : List Env) (s : Shared) (H : Hp) (E : XK) : Cx where
  prog := P
  w := w
  K := K
  mg := mg
  base := base
  A := A.deeper (PySem.W.ksEnv qual scope s.heap.objs.size f cd cc)
  N := ["self", "at"]
  s_0 := s
  H_0 := H
  env := PySem.W.ksEnv qual scope s.heap.objs.size f cd cc
  outer := outer
  stack := PySem.W.ksEnv qual scope s.heap.objs.size f cd cc :: outer
  ex := []
  calm := true
  fn := fun _ => false
  pn := []
  xe := fun e s' => wpAny (model P w) (A.deeper (PySem.W.ksEnv qual scope s.heap.objs.size f cd cc)) (leaving (PySem.W.ksEnv qual scope s.heap.objs.size f cd cc) e) (fun _ s'' => CX outer H s E e s'') (fun e' s'' => CX outer H s E e' s'') s'
theorem look1 {x y : Str} {c d : Addr} (h : ([(x, c)] : List (Str × Addr)).lookup y = some d) : y = x ∧ d = c := by
  have e : (match y == x with
    | true => some c
    | false => none) = some d := h
  split at e
  · rename_i h1
    exact ⟨eq_of_beq h1, (Option.some.inj e).symm⟩
  · cases e
section
variable {CX : CXT} {P : Program} {w : World} {K : PySem.W.Frag} {mg : Str → Option Value} {base : Heap} {qual : Str} {scope : Scope} {f C cc : Addr} {cd : Value} {A : Around} {outer : List Env} {s : Shared} {H : Hp} {E : XK} {h1 : Heap} {tk : Nat} {a b : Value} {x y : V}
theorem init_inv (hs : initSc scope = true) (hd : A.handled = none) (e0 : Env0 P w K mg base A outer s H) {oc : Obj} {vc : Value} (hcc : base.get? cc = some oc) (hcd : oc.data = .cell (some vc)) (rx : RelV x a) (ry : RelV y b)
    (hn : h1.Ns s.heap.objs.size fun z => ([("self", a), ("at", b)] : List (Str × Value)).reverse.lookup z) (kp : ∀ b o, s.heap.get? b = some o → h1.get? b = some o) :
    Inv (iCx CX P w K mg base qual scope f cd cc A outer s H E) [] [some x, some y] H { s with heap := h1, toks := tk } := by
  unfold initSc at hs
  simp only [Bool.and_eq_true, Bool.not_eq_true', decide_eq_true_eq, List.all_eq_true, Bool.or_eq_true, decide_eq_false_iff_not] at hs
  obtain ⟨⟨⟨⟨⟨⟨⟨k1, k2⟩, k3⟩, k4⟩, k5⟩, k6⟩, k7⟩, k8⟩ := hs
  have hk : scope.kind = .function := by split at k1 <;> first | assumption | cases k1
  have noA : ∀ b : Addr, b ∉ (iCx CX P w K mg base qual scope f cd cc A outer s H E).ex := fun b z => absurd (show b ∈ ([] : List Addr) from z) (by simp)
  have hb := e0.bs cc oc hcc
  have cellAt : ∀ z c, ([(("__class__" : Str), cc)] : List (Str × Addr)).lookup z = some c → c = cc := fun z c e => (look1 e).2
  refine ⟨⟨e0.mod, hk, rfl, rfl, Nat.le_refl _, fun u z c e1 e2 => ?_, fun z hz => ?_, fun z c h _ => ?_, fun _ => hd, Around.frames_deeper e0.frames, .inr ⟨rfl, rfl⟩, fun b z => absurd z (noA b), e0.bs, e0.bsz, fun b _ _ => noA b, fun b z => absurd z (noA b), e0.funs, e0.frf⟩,
    rfl, e0.bare, Un.kept kp, ⟨_, hn, fun i z v e1 e2 e3 => ?_⟩, fun z c e => ?_, e0.hok.fresh (Nat.le_refl _), fun z c e => ?_, fun q hq => absurd (show q ∈ ([] : List (Addr × Obj)) ++ [] from hq) (by simp), e0.hok.kept kp, rfl⟩
  · exact (look1 e1).1.trans (look1 e2).1.symm
  · have hz : scope.names.lookup z = some .cell ∨ scope.names.lookup z = some .free := hz
    rcases hz with hz | hz
    · exact absurd rfl (k8 _ (PySem.mem_of_lookup hz)).1
    · rcases (k8 _ (PySem.mem_of_lookup hz)).2 with q | q
      · exact absurd rfl q
      · have q : z = "__class__" := q
        subst q
        exact ⟨cc, by rfl⟩
  · have h : false = true := h
    cases h
  · match i, e1, e2 with
    | 0, e1, e2 =>
      cases e1; cases e2
      exact ⟨a, rx, .inl ⟨k6, by rfl⟩⟩
    | 1, e1, e2 =>
      cases e1; cases e2
      exact ⟨b, ry, .inl ⟨k7, by rfl⟩⟩
    | n + 2, e1, e2 => simp [iCx] at e1
  · rw [cellAt z c e]
    exact ⟨_, oc, kp _ _ hb.1, hcd⟩
  · rw [cellAt z c e]
    exact hb.2

/-- the frame's body: super().__init__(at) -/
theorem init_super {pins : List (Addr × Obj)} {fI cda x : Addr} {params : Arguments} {body body' : List Stmt} {kV doc pm ct oc : Value} {an od : Option Addr} {osl : Array (Option Value)} {Q : Flow → Shared → Prop} {s1 : Shared} {y : V} {st : Stmt} {p0 p1 p2 p3 pos pos2 : Pos}
    (X : XcK P K C) (hp : initP params = true) (hs : initSc scope = true) (I : Inv (iCx CX P w K mg base qual scope fI (.ref cda) cc A outer s H E) [] [some (.ref x), some y] H s1) (hx : H x = some (exo x C none))
    (lk : K.lookup fI = some ⟨oc, od, .func (PySem.W.ksFn "__init__" qual params body' scope .none kV doc pm an (.ref cda) ct cc), osl⟩)
    (hcode : ∃ (cl : Value) (dd : Option Addr) (vs : Array Value) (sl : Array (Option Value)) (file : Str) (tf : Tok), K.lookup cda = some ⟨cl, dd, .fields vs, sl⟩ ∧ vs[2]? = some (.str file tf) ∧ ((P.main.file : Str) == file) = true)
    (hcell : ∃ (cl : Value) (dd : Option Addr) (sl : Array (Option Value)), K.lookup cc = some ⟨cl, dd, .cell (some (.ref C)), sl⟩)
    (hm : mg "super" = none) (e0funs : s.heap.FunFrames base outer) (hl : (p2.endLine == p3.line) = true)
    (hq : ∀ s2, Inv (iCx CX P w K mg base qual scope fI (.ref cda) cc A outer s H E) [] [some (.ref x), some y] H s2 → Q .next s2) :
    _root_.PySem.wpAt (model P w) (A.deeper (PySem.W.ksEnv qual scope s.heap.objs.size fI (.ref cda) cc)) (.func body (PySem.W.ksEnv qual scope s.heap.objs.size fI (.ref cda) cc))
      (exec (.Expr (.Call (.Attribute (.Call (.Name "super" p0) [] [] p1) "__init__" p2) [.Name "at" pos2] [] p3) pos) (PySem.W.ksEnv qual scope s.heap.objs.size fI (.ref cda) cc)) Q (iCx CX P w K mg base qual scope fI (.ref cda) cc A outer s H E).xe s1 := by
  have hs' := hs
  unfold initSc at hs
  simp only [Bool.and_eq_true, Bool.not_eq_true', decide_eq_true_eq, List.all_eq_true, Bool.or_eq_true, decide_eq_false_iff_not] at hs
  obtain ⟨⟨⟨⟨⟨⟨⟨k1, k2⟩, k3⟩, k4⟩, k5⟩, k6⟩, k7⟩, k8⟩ := hs
  have hk : scope.kind = .function := by split at k1 <;> first | assumption | cases k1
  obtain ⟨ca1, ca2, vs, ca3, file, tf, lc, hv, hfile⟩ := hcode
  obtain ⟨ce1, ce2, ce3, lce⟩ := hcell
  obtain ⟨a0, b0, ep1, ep2, ep3⟩ : ∃ a0 b0 : Arg, (params.posonlyargs ++ params.args).head? = some a0 ∧ a0.arg = "self" ∧ b0.arg = "at" := by
    unfold initP at hp
    split at hp
    · rename_i a b _ _
      simp only [Bool.and_eq_true, decide_eq_true_eq] at hp
      exact ⟨a, b, rfl, hp.1, hp.2⟩
    · cases hp
  obtain ⟨nm, q, N, bs, bm, sn, sub, ab, col, dd, c0, c1, c2, c3, c5, hC, hbm⟩ := X.oex.cls
  have hcl : PySem.W.clsIn K C = some { name := nm, bases := bs, mro := .ref C :: bm, ns := N, qualname := q, hasDict := true, slotNames := sn, subclasses := sub, abstract := ab, collection := col, hasDel := false } := by unfold PySem.W.clsIn; rw [hC] <;> rfl
  obtain ⟨m, hns, hlook⟩ := id I.loc
  have look : ∀ (i : Nat) (z : Str) (v : V), (["self", "at"] : List Str)[i]? = some z → ([some (.ref x), some y] : L2.St)[i]? = some (some v) → scope.names.lookup z = some .local → ∃ u, RelV v u ∧ m z = some u := by
    intro i z v e1 e2 e3
    obtain ⟨u, r, q⟩ := hlook i z v e1 e2 (.inl e3)
    rcases q with ⟨_, e⟩ | ⟨k | k, _⟩
    · exact ⟨u, r, e⟩
    · have k : scope.names.lookup z = some .cell := k
      rw [e3] at k; cases k
    · have k : scope.names.lookup z = some .free := k
      rw [e3] at k; cases k
  obtain ⟨us, rs, ms⟩ := look 0 "self" (.ref x) rfl rfl k6
  obtain rfl : us = Value.ref x := rs
  obtain ⟨t1, ho⟩ := exo_at I.hok hx
  have KX : K.In s1.heap := I.kIn
  obtain ⟨mb, hb1, hb2⟩ := I.mod.blt
  refine PySem.ks_wpAt_Expr_any (PySem.ks_wpAt_MethodCall (pl := L2.plainOf (.Call (.Name "super" p0) [] [] p1) (PySem.W.ksEnv qual scope s.heap.objs.size fI (.ref cda) cc)) ?_ ?_) ?_ ?_
  rotate_left
  rotate_left
  · exact I.quiet
  · rfl
  rotate_left
  · show (do
      let ov ← attributeBase (.Call (.Name "super" p0) [] [] p1) "__init__" _ (eval (.Call (.Name "super" p0) [] [] p1) _)
      standAt p2.atName
      methodCall (.Call (.Name "super" p0) [] [] p1) "__init__" p2 p3 _ ov _ _ _) = _
    congr 1
    funext ov
    congr 1
    funext _
    exact mcall_line rfl hl
  have hee : ∀ g : Shared, g.heap = s1.heap → g.os = s1.os → g.gens = s1.gens → True := fun _ _ _ _ => trivial
  obtain ⟨hp1, g, d, tk, os⟩ := s1
  refine PySem.ks_wpAt_super_base (env := PySem.W.ksEnv qual scope s.heap.objs.size fI (.ref cda) cc) k4 k5 rfl rfl (KX _ _ lk) rfl ep1 rfl (KX _ _ lc) rfl hv hfile X.top ?_
  refine PySem.W.ks_loadName_global hk k4 (Calls.loadGlobal_builtin (env := PySem.W.ksEnv qual scope s.heap.objs.size fI (.ref cda) cc) (I.mod.glob.keeps I.bk) hm (hb1.keeps I.bk) ((hb2 _ (by decide)).trans (by decide +kernel)) ⟨rfl, ?_⟩)
  refine wpAny_loadName_free hk k5 rfl ⟨_, KX _ _ lce, rfl⟩ ?_
  rw [ep2]
  refine wpAny_loadName_local hk k6 hns ms ?_
  refine PySem.ks_wpAny_isType_cls (KX _ _ hC) rfl ⟨rfl, ?_⟩
  refine PySem.ks_wpAny_call_super (KX _ _ hC) rfl ho rfl (fun c e => by cases e) (PySem.W.looks_mroIn KX X.self) (fun h2 e2 kp2 => ?_)
  have I2 : Inv (iCx CX P w K mg base qual scope fI (.ref cda) cc A outer s H E) [] [some (.ref x), some y] H ⟨h2, g, d, tk, os⟩ := I.kept kp2
  have IA : PySem.W.InstAt h2 x ({ cls := .ref C, dict := none, data := .fields #[.ref t1, .none, .none, .none, .bool false, .none] } : Obj) C none := ⟨kp2 _ _ ho, rfl, rfl, trivial⟩
  have KX2 : K.In h2 := I2.kIn
  have hm2 := X.sup
  unfold PySem.W.ks_superIn at hm2
  rw [hcl] at hm2
  refine PySem.W.kxs_getMethod PySem.W.kxs_ValueError e2 (PySem.W.looks_opaque KX2 X.any) (l₀ := .ref C :: bm) (fun A Q E s k q => wpAny_bind ((PySem.W.looks_clsIn KX2 hcl) A _ E s k (wpAny_pure q))) rfl KX2 hm2 (IA.type.andThen (PySem.W.looks_subIn KX2 X.ve)) (PySem.W.ks_ne KX2 IA hcl) (by decide) ?_
  have I3 : Inv (iCx CX P w K mg base qual scope fI (.ref cda) cc A outer s H E) [] [some (.ref x), some y] H ⟨h2.push (PySem.W.kxs_mw "ValueError.__init__" x), g, d, tk + 1, os⟩ := I2.kept fun b o e => Heap.get?_push_of_some _ e
  have hmw : (h2.push (PySem.W.kxs_mw "ValueError.__init__" x)).get? h2.objs.size = some (PySem.W.kxs_mw "ValueError.__init__" x) := Heap.get?_push_at rfl rfl
  show wpAny _ _ (callWith p3 (Value.ref h2.objs.size) [] (backTo p3 (starEach [.Name "at" pos2] _)) []) _ _ _
  have hfree : H h2.objs.size = none := I2.hok.fresh (Nat.le_refl _)
  have nofr : h2.objs.size ∉ frs outer := fun hm => by
    obtain ⟨_, o, ho2, _⟩ := e0funs.mem hm
    have h3 := I.base.there _ o ho2 (by show h2.objs.size ∉ ([] : List Addr); simp)
    obtain ⟨o', h3⟩ := h3
    exact absurd (Heap.lt_size (kp2 _ _ h3)) (Nat.lt_irrefl _)
  have I3p : Inv (iCx CX P w K mg base qual scope fI (.ref cda) cc A outer s H E) [(h2.objs.size, PySem.W.kxs_mw "ValueError.__init__" x)] [some (.ref x), some y] H ⟨h2.push (PySem.W.kxs_mw "ValueError.__init__" x), g, d, tk + 1, os⟩ := I3.pins_of fun p hp => by
    cases List.mem_singleton.mp hp
    refine ⟨hmw, hfree, fun e => ?_, nofr, fun v e => by cases e⟩
    have h4 := I2.lt
    have e : h2.objs.size = (iCx CX P w K mg base qual scope fI (.ref cda) cc A outer s H E).env.locals := e
    rw [← e] at h4
    exact absurd h4 (Nat.lt_irrefl _)
  refine PySem.W.kxs_callWith (i := "ValueError.__init__") (x := x) rfl (Calls.evalArgs_plain (thn ((pa_cons (pe_var (X := iCx CX P w K mg base qual scope fI (.ref cda) cc A outer s H E) (i := 1) rfl (.inl k7)) pa_nil).run p3 [(h2.objs.size, PySem.W.kxs_mw "ValueError.__init__" x)] _ _ H (fun vs H2 => vs.length = 1 ∧ H2 = H) I3p ⟨y, rfl, rfl, rfl⟩) fun us s3 ⟨vs, H3, I4, r4, q4⟩ => ?_))
  obtain ⟨q4, rfl⟩ := q4
  have hu := (I4.pin _ (List.mem_append_right _ List.mem_cons_self)).1
  refine ⟨hu, ?_⟩
  have hz : us.length ≤ sizeLine := by rw [← r4.length, q4, sizeLine_eq]; omega
  obtain ⟨t2, ho4⟩ := exo_at I4.hok hx
  have hC4 := I4.kIn _ _ hC
  have I5 : Inv (iCx CX P w K mg base qual scope fI (.ref cda) cc A outer s H3 E) [] [some (.ref x), some y] H3 s3 := I4.pins_of fun p hp => by cases hp
  obtain ⟨hh, g3, d3, tk3, os3⟩ := s3
  refine wpAny_call (codeAny_of_tree ?_)
  show wpAny _ (Around.in1 _) (callAny (.ref h2.objs.size) ⟨us, []⟩) _ _ _
  simp only [callAny]
  refine wpAny_bind (wpAny_load hu ?_)
  simp only [PySem.W.kxs_mw, show (Value.type "method-wrapper" == Value.type "method" || Value.type "method-wrapper" == Value.type "builtin_function_or_method" || Value.type "method-wrapper" == Value.type "method-wrapper") = true by decide, if_true]
  refine PySem.W.KFB.if_so (by decide) (wpAny_bind (ESX.check_bound PySem.F.excBase_ValueError hC4 ho4 rfl (wpAny_bind (wpAny_pure (wpAny_pure ?_)))))
  refine ⟨plainId_quiet PySem.F.excBase_ValueError.init.plain _, codeAny_builtin PySem.F.excBase_ValueError.initEntry ?_⟩
  rw [Around.under_plainId PySem.F.excBase_ValueError.init.plain _]
  refine PySem.W.exc_init_tree ho4 hz fun h5 k5' e5 _ => ?_
  have J := I5.write (t' := tk3) (x := x) (e := x) (o := exo x C none) (by rw [hx]; exact True.intro) (.inl rfl) k5' ⟨_, e5⟩ (exo_ok e5)
  have eu : upd H3 x (exo x C none) = H3 := by
    funext b
    by_cases hb : b = x
    · rw [hb, upd_same, hx]
    · rw [upd_ne hb]
  rw [eu] at J
  exact hq _ J
/-- what such an __init__ promises -/
def spI (C : Addr) : Sp := fun vs H Q _ => ∃ (a : Addr) (v : V), vs = [.ref a, v] ∧ H a = some (exo a C none) ∧ ∀ dx, H dx = none → dx ≠ a → Q .non (upd (upd H dx (exd dx [(("at" : Str), v)])) a (exo a C (some dx)))
theorem initP_bind {params : Arguments} (hp : initP params = true) {body : List Stmt} {kV doc pm cdv ct : Value} {an : Option Addr} {x y : Value} : bindArgs (PySem.W.ksFn "__init__" qual params body scope .none kV doc pm an cdv ct cc) ⟨[x, y], []⟩ = pure [(("self" : Str), x), (("at" : Str), y)] := by
  unfold initP at hp
  split at hp
  · rename_i a b _ _
    simp only [Bool.and_eq_true, decide_eq_true_eq] at hp
    obtain ⟨n1, n2, n3⟩ := a
    obtain ⟨m1, m2, m3⟩ := b
    obtain ⟨h1, h2⟩ := hp
    have h1 : n1 = "self" := h1
    have h2 : m1 = "at" := h2
    subst h1 h2
    rfl
  · cases hp
theorem init_ok {C : Addr} (X : XcK P K C) (hm : mg "super" = none) : ∃ (fI : Addr) (fd : FuncData), PySem.W.findIn K (.ref C) "__init__" = some (some (.ref fI)) ∧ PySem.W.typeIn K (.ref fI) = some (.type "function") ∧
    FnOk P w K mg base CX 1 fI fd ["self", "at"] (spI C) ∧ L2.Binds K fd ["self", "at"] [] := by
  obtain ⟨fI, cda, cc, qual, params, body, scope, kV, doc, pm, ct, oc, an, od, osl, h1, h2, lk, hcd, hb, hp, hs, hcode, hcell⟩ := X.init
  refine ⟨fI, PySem.W.ksFn "__init__" qual params body scope .none kV doc pm an (.ref cda) ct cc, h1, h2, ⟨fun vs H Q E ⟨a, v, e, _⟩ => by rw [e]; rfl, fun A outer s H args us vs Q E hr e0 hbd r hsp => ?_⟩, fun s us hK hl => ?_⟩
  · obtain ⟨a, v, rfl, ea, hq⟩ := hsp
    have KX : K.In s.heap := e0.mod.kin.keeps fun b o e => (e0.bs b o e).1
    have lim : s.heap.NoLimit := e0.mod.nolimit.keeps fun b o e => (e0.bs b o e).1
    cases r with
    | @cons _ u0 _ ur ra r =>
    cases r with
    | @cons _ u1 _ ur rb r =>
    cases r
    obtain rfl : u0 = Value.ref a := ra
    have hs0 := hs
    unfold initSc at hs
    simp only [Bool.and_eq_true, Bool.not_eq_true', decide_eq_true_eq, List.all_eq_true, Bool.or_eq_true, decide_eq_false_iff_not] at hs
    obtain ⟨⟨⟨⟨⟨⟨⟨k1, k2⟩, k3⟩, k4⟩, k5⟩, k6⟩, k7⟩, k8⟩ := hs
    have hk : scope.kind = .function := by split at k1 <;> first | assumption | cases k1
    refine PySem.ks_codeAny_call_defAt hr.depth (KX _ _ lk) rfl lim (PySem.W.codeRec_of KX hcd) rfl hbd (fun y hy => (k8 y hy).1) (fun y hy => ?_) (fun h₀ hns hkp => ?_) k2 k3 hk
    · have hy : y ∈ [(("self" : Str), Value.ref a), (("at" : Str), u1)] := hy
      rcases List.mem_cons.mp hy with e | hy
      · rw [e]; exact k6
      · rw [List.mem_singleton.mp hy]; exact k7
    · obtain ⟨ce1, ce2, ce3, lce⟩ := id hcell
      have I := init_inv (CX := CX) (P := P) (w := w) (K := K) (mg := mg) (base := base) (qual := qual) (scope := scope) (f := fI) (cc := cc) (cd := .ref cda) (A := A) (outer := outer) (s := s) (H := H) (E := E) (h1 := h₀) (tk := s.toks + [(("self" : Str), Value.ref a), (("at" : Str), u1)].length) (a := .ref a) (b := u1) (x := .ref a) (y := v)
        hs0 hr.hd e0 (e0.mod.kin _ _ lce) rfl rfl rb hns hkp
      unfold initB at hb
      split at hb <;> try (cases hb; done)
      rename_i s' p0 p1 i ap a' pa p pp b' pb f' pf c' pc pq
      simp only [Bool.and_eq_true, decide_eq_true_eq] at hb
      obtain ⟨⟨⟨⟨⟨⟨g1, g2⟩, g3⟩, g4⟩, g5⟩, g6⟩, g7⟩ := hb
      subst g1 g2 g3 g4 g5 g6
      refine PySem.ks_wpAt_execs_cons ?_
      refine init_super (st := .Pass p) (pins := []) X hp hs0 I ea lk hcode hcell hm e0.funs g7 fun s2 I2 => ?_
      refine wpAt_of_wpAny ?_
      have rule := pss_one (ps_ost (X := iCx CX P w K mg base qual scope fI (.ref cda) cc A outer s H E) (p' := pf) (pos := pq) (f := "at") (pe_var (i := 0) (pos := pb) (x := "self") rfl (.inl k6)) (pe_var (i := 1) (pos := pc) (x := "at") rfl (.inl k7)))
      refine wpAny_mono (rule.run [] s2 _ H { nx := fun _ H' => Q .non H', rt := Q } I2 ⟨v, rfl, .ref a, rfl, a, C, rfl, X.oex, X.no, .inl ⟨ea, fun dx h1 h2 => hq dx h1 h2⟩⟩) (fun fl s' hs' => ?_) fun e s' z => z
      cases fl with
      | next =>
        obtain ⟨σ', H', J, q⟩ := hs'
        exact ⟨.non, H', J.os, J.bare, J.base, J.hok, rfl, q⟩
      | ret u =>
        obtain ⟨v', σ', H', J, rv, q⟩ := hs'
        exact ⟨v', H', J.os, J.bare, J.base, J.hok, rv, q⟩
      | brk =>
        obtain ⟨_, _, _, q⟩ := hs'
        exact q.elim
      | cont =>
        obtain ⟨_, _, _, q⟩ := hs'
        exact q.elim
  · match us, hl with
    | [x, y], _ => exact .of_eq (initP_bind hp)
end
section
variable {X : Cx} {ca : String → Addr} {W : WX} {C : Calls} {e : E} {pe : Expr} {x : Str} {p p1 pos : Pos} {c : String}
theorem z_mk {Cx_ : Addr} (T : XcK X.prog X.K Cx_) (hsu : X.mg "super" = none) (hr : Room 2 X.A) (hg : Gl X x) (hm : X.mg x = some (.ref Cx_)) (hdb : (x == ("__debug__" : Str)) = false) (hp : plainX pe = true) (he : PE X pe (zE X ca W C e)) :
    PMk X (.Call (.Name x p) [pe] [] p1) (tMkO Cx_ (spI Cx_) [] (zEs X ca W C (.cons e .nil))) := by
  obtain ⟨fI, fd, h1, h2, F, hb⟩ := init_ok (CX := L2.CX X.prog X.w) (w := X.w) (base := X.base) T hsu
  have hs := starEach_plain (es := []) (env := X.env) hp
  exact pmk_oex T.oex h1 h2 F hr hb .nil (fun pins σ H s e s' I hx => by
    obtain ⟨_, _, _, _, _, _, _, _, _, _, _, _, z⟩ := hx
    exact z.elim) hg hm (za_cons (es := .nil) hp he za_nil) hdb hs rfl
theorem upd_exc {H : Hp} {a dx Cx_ : Addr} {fs : List (Str × V)} (ha : H a = none) (hne : dx ≠ a) : upd (del (upd (upd (upd H a (exo a Cx_ none)) dx (exd dx fs)) a (exo a Cx_ (some dx))) a) dx (.xd fs) = upd H dx (.xd fs) := by
  funext b
  by_cases h1 : b = dx
  · subst h1; rw [upd_same, upd_same]
  · rw [upd_ne h1, upd_ne h1]
    by_cases h2 : b = a
    · subst h2; rw [del_same, ha]
    · rw [del_ne h2, upd_ne h2, upd_ne h1, upd_ne h2]
end
end Z


/-! Zt: try with several clauses that name the error; a lambda handed to a def that hears of errors. -/
namespace Z
open PySem L2 PySem.Spec PyProof.Rows

/-- what a clause does: at the error's place, by its class, its dict -/
abbrev Cl := Addr → Value → Option Addr → TS
/-- behind a clause its name is gone -/
def Ends.off (D : Ends) (i : Nat) : Ends := { nx := fun τ G => D.nx (τ.set i none) G, rt := D.rt, bk := fun τ G => D.bk (τ.set i none) G, ct := fun τ G => D.ct (τ.set i none) G }
/-- what clauses with a name (slot i) wish for, one behind the other -/
def wAll (K : PySem.W.Frag) (i : Nat) (Wo : WX) (D : Ends) : List (Value × Cl) → WX
  | [] => Wo
  | (v, cl) :: l => fun k d τ G => ∃ yes, PySem.W.exmOne K k v = some yes ∧ (yes = true → ∀ a, G a = none → cl a k d (Ends.off D i) (τ.set i (some (.ref a))) G) ∧ (yes = false → wAll K i Wo D l k d τ G)
inductive ClsOk (X : Cx) (n : Str) : List ExceptHandler → List (Value × Cl) → Prop
  | nil : ClsOk X n [] []
  | cons {y : Str} {v : Value} {cl : Cl} {st : Stmt} {su : List Stmt} {q1 q2 : Pos} {hl : List ExceptHandler} {l : List (Value × Cl)} (hy : Names X y v)
      (run : ∀ (a : Addr) (o : Obj) (k : Value) (d : Option Addr) (pn : List (Addr × Obj)), Zc k d o → (∃ vs, o.data = .fields vs) → PSs (X.suite a ((a, o) :: pn)) (st :: su) (cl a k d)) (r : ClsOk X n hl l) :
      ClsOk X n (.ExceptHandler (some (.Name y q1)) (some n) (st :: su) q2 :: hl) ((v, cl) :: l)
section
variable {X : Cx} {n : Str} {i : Nat} {body : List Stmt} {h0 : ExceptHandler} {hl : List ExceptHandler} {l : List (Value × Cl)} {pos : Pos} {tb : WX → TS} {Wo : WX}
theorem try_all (hs : X.stack = X.env :: X.outer) (hf : X.env.frame = some X.env.locals) (hN : X.N.Nodup) (hi : X.N[i]? = some n) (hn : X.env.kindOf n = some .local) (tk : Takes X Wo)
    (hb : ∀ (W : WX) (pn : List (Addr × Obj)) (xe : Value → Shared → Prop), Takes (X.tr pn xe) W → PassesOwn (model X.prog X.w) X.A X.env xe → PSs (X.tr pn xe) body (tb W))
    (hc : ClsOk X n (h0 :: hl) l) : PS X (.Try body (h0 :: hl) [] [] pos) (fun D σ H => tb (wAll X.K i Wo D l) D σ H) := by
  constructor
  intro pins s0 σ0 H0 D I0 h
  have ok := I0.ok
  have fr : X.A.frames = some (X.env :: X.outer) := by rw [ok.frames, hs]
  have loc : Loc X.env.scope n := .inl hn
  apply wpAny_Try_except
  have main := hb (wAll X.K i Wo D l) (X.pn ++ pins) (fun u t1 => wpAny (model X.prog X.w) X.A (noteFrame u X.env) (fun _ t2 => wpAny (model X.prog X.w) X.A (setFlight u none) (fun _ t3 =>
    wpAny (model X.prog X.w) X.A (handleBy u X.env (h0 :: hl)) (SP X pins D) X.xe t3) X.xe t2) X.xe t1)
  refine wpAny_mono ((main (fun u t h => ?_) PassesOwn.looking).run [] s0 σ0 H0 D (I0.toTry _) h) (fun f t h => ?_) (fun _ _ h => h)
  · obtain ⟨a, B, tI, pins1, σ1, H1, k, d, rfl, I1', ground, up, sky, na, os, ag, w⟩ := h
    have I1 : Inv X pins σ1 H1 tI := I1'.ofTry ok
    have sky2 : Sky B (X.env :: X.outer) a (Zc k d) X.env.locals t.heap := by rw [← hs]; exact sky
    show wpAny (model X.prog X.w) X.A (noteFrame (.ref a) X.env) _ _ _
    apply Sky.land Zc.steady fr hf sky2
    intro g3 fl3 up3
    have I3 : Inv X pins σ1 H1 { t with heap := g3 } := I1.landed ground fl3.1 (up.trans up3) os ag
    obtain ⟨o3, vs3, at3, z3, d3⟩ := fl3.there
    have outF : ∀ {g : Heap} {o : Obj} {vs : Array Value}, g.FunFrames B (X.env :: X.outer) → g.get? a = some o → o.data = .fields vs → a ∉ frs (X.env :: X.outer) := by
      intro g o vs ff e1 e2 hm
      obtain ⟨_, o', e3, no⟩ := ff.mem hm
      rw [e1] at e3
      cases e3
      exact no _ e2
    have nfr := outF fl3.2.2.1 at3 d3
    have nL : a ≠ X.env.locals := by
      intro e
      exact nfr (List.mem_filterMap.mpr ⟨X.env, List.mem_cons_self, by rw [hf, e]⟩)
    have nF : a ∉ X.fs := by
      intro hm
      obtain ⟨e, h1, h2⟩ := List.mem_filterMap.mp hm
      exact nfr (List.mem_filterMap.mpr ⟨e, List.mem_cons_of_mem _ h1, h2⟩)
    have S3 := I3.suite at3 d3 na nL nF
    suffices go : ∀ {hl' : List ExceptHandler} {l' : List (Value × Cl)}, ClsOk X n hl' l' → wAll X.K i Wo D l' k d σ1 H1 → wpAny (model X.prog X.w) X.A (handleBy (.ref a) X.env hl') (SP X pins D) X.xe { t with heap := g3 } from go hc w
    intro hl' l' hk
    induction hk with
    | nil =>
      intro w
      apply wpAny_handleBy_nil
      obtain ⟨_, _, _, o4, vs4, T, oT, ts4, e4, _, e5, e6, _⟩ := id fl3
      unfold PySem.passOn
      refine wpAny_bind (wpAny_field e4 e5 e6 ?_)
      rw [if_neg (by simp)]
      have last : wpAny (model X.prog X.w) X.A (setFlight (.ref a) X.env.frame) (fun _ t4 => wpAny (model X.prog X.w) X.A (throw (.ref a) : Sem Flow) (SP X pins D) X.xe t4) X.xe { t with heap := g3 } := by
        rw [hf]
        apply HandSPX.setFlight_upZ fl3
        intro g4 up4 up5
        exact wpAny_throw (tk _ _ ⟨a, B, tI, pins, σ1, H1, k, d, rfl, I1, ground, (up.trans up3).trans up5, .inr (.inr (by rw [hs]; exact up4)), na, os, ag, w⟩)
      first
        | exact wpAny_bind (wpAny_pure (wpAny_bind last))
        | exact wpAny_bind last
    | @cons y v cl st su q1 q2 hl2 l2 hy run r ih =>
      intro w
      obtain ⟨yes, hx, hyes, hno⟩ := w
      refine wpAny_handleBy_cons (codeAny_handlers_test ?_) (by intro z; cases z)
      have kind : PySem.W.Looks (model X.prog X.w) g3 (typeOf (.ref a)) k := fun A Q E s kk q => wpAny_typeOf_ref (kk _ _ at3) (by rw [z3.1]; exact q)
      have looks := PySem.W.exm_one (M := model X.prog X.w) I3.kIn kind hx
      have named : ∀ {Q E : Value → Shared → Prop}, Q v { t with heap := g3 } → wpAny (model X.prog X.w) (X.A.mark (some (.ref a))) (eval (.Name y q1) X.env) Q E { t with heap := g3 } := by
        intro Q E q
        rcases hy with ⟨n1, n2, n3 | ⟨n3, n4, n5⟩⟩
        · exact ld_glob (X := X.suite a ((a, o3) :: (X.pn ++ pins))) S3 n1 n3 q n2
        · exact ld_blt (X := X.suite a ((a, o3) :: (X.pn ++ pins))) S3 n1 n3 n4 q n5 n2
      refine named (looks.here ?_)
      cases yes with
      | false => exact ih (hno rfl)
      | true =>
        apply codeAny_handlers_suite_as
        apply HandSPX.lands_againZ fl3
        intro g4 fl4 up4
        have I4 : Inv X pins σ1 H1 { t with heap := g4 } := I1.landed ground fl4.1 ((up.trans up3).trans up4) os ag
        obtain ⟨o4, vs4, at4, z4, d4⟩ := fl4.there
        have S4 := I4.suite at4 d4 na nL nF
        refine store_ok (X := X.suite a ((a, o4) :: (X.pn ++ pins))) (v := .ref a) S4 hN hi loc rfl (fun t5 S5 => ?_) (.inr hn)
        have gone : ∀ {σ6 : L2.St} {H6 : Hp} {t6 : Shared} {Q : Shared → Prop}, Inv (X.suite a ((a, o4) :: (X.pn ++ pins))) [] σ6 H6 t6 → (∀ t7, Inv X pins (σ6.set i none) H6 t7 → Q t7) →
            wpAny (model X.prog X.w) X.A (do bindName X.env n .none; unbindBehindTheSuite X.env n q2) (fun _ t7 => Q t7) X.xe t6 := fun S6 hq => gone_ok (S6.unsuite ok) hN hi hn hq
        refine wpAny_mono ((run a o4 k d (X.pn ++ pins) z4 ⟨_, d4⟩).run [] t5 _ H1 _ S5 (hyes rfl a na)) (fun f t6 h => ?_) (fun _ _ z => False.elim z)
        cases f with
        | ret u =>
          obtain ⟨v6, σ6, H6, S6, r6, q6⟩ := h
          exact gone S6 fun t7 I7 => ⟨v6, _, H6, I7, r6, q6⟩
        | next =>
          obtain ⟨σ6, H6, S6, q6⟩ := h
          exact gone S6 fun t7 I7 => ⟨_, H6, I7, q6⟩
        | brk =>
          obtain ⟨σ6, H6, S6, q6⟩ := h
          exact gone S6 fun t7 I7 => ⟨_, H6, I7, q6⟩
        | cont =>
          obtain ⟨σ6, H6, S6, q6⟩ := h
          exact gone S6 fun t7 I7 => ⟨_, H6, I7, q6⟩
  · cases f with
    | next =>
      obtain ⟨σ1, H1, I1, q⟩ := h
      exact wpAny_execs_nil ⟨σ1, H1, I1.ofTry ok, q⟩
    | brk =>
      obtain ⟨σ1, H1, I1, q⟩ := h
      exact ⟨σ1, H1, I1.ofTry ok, q⟩
    | cont =>
      obtain ⟨σ1, H1, I1, q⟩ := h
      exact ⟨σ1, H1, I1.ofTry ok, q⟩
    | ret u =>
      obtain ⟨v, σ1, H1, I1, r, q⟩ := h
      exact ⟨v, σ1, H1, I1.ofTry ok, r, q⟩
end
/-! ### clauses that tell a word and what the error keeps -/
/-- return (t, wrong.at) -/
def clT (ca : String → Addr) (i : Nat) (c : String) (t : Str) : Cl := fun a k d D τ G => ∃ (dx : Addr) (v : V) (τ0 : L2.St), k = .ref (ca c) ∧ d = some dx ∧ G dx = some (.xd [(("at" : Str), v)]) ∧ τ = τ0.set i (some (.ref a)) ∧
  ∀ (p : Addr) (o : Obj), o.dict = none → G p = none → D.rt (.ref p) (upd G p (.frz o (.tup [.str t, v])))
def glS (sc : Scope) (y : Str) : Bool := decide (sc.names.lookup y = some NameKind.globalImplicit) && !(y == ("__debug__" : Str))
def hdC (sc : Scope) (w : Str) : List (String × Str) → List ExceptHandler → Bool
  | [], [] => true
  | (c, t) :: hs, .ExceptHandler (some (.Name y _)) (some n) [.Return (some (.Tuple [.Constant (.str t') _ _, .Attribute (.Name n2 _) f _] _ _)) _] _ :: hl =>
    decide (y = Str.ofString c) && decide (n = w) && decide (t' = t) && decide (n2 = w) && decide (f = "at") && glS sc y && hdC sc w hs hl
  | _, _ => false
/-- what is known of errors: each class stands in the module, and one is none of the others -/
structure ErrOk (P : Program) (K : PySem.W.Frag) (mg : Str → Option Value) (ca : String → Addr) (cs : List String) : Prop where
  ex : ∀ c ∈ cs, XcK P K (ca c) ∧ mg (Str.ofString c) = some (.ref (ca c))
  exm : ∀ c ∈ cs, ∀ c' ∈ cs, PySem.W.exmOne K (.ref (ca c)) (.ref (ca c')) = some (decide (c = c'))
section
variable {X : Cx} {ca : String → Addr} {cs : List String} {w : Str} {i : Nat} {D : Ends} {Wo : WX}
theorem cl_ok {c : String} {t : Str} {k1 k2 : Nat} {p1 p2 p3 p4 p5 : Pos} {a : Addr} {o : Obj} {k : Value} {d : Option Addr} {pn : List (Addr × Obj)} (T : XcK X.prog X.K (ca c)) (hw : X.N[i]? = some w) (hl : X.env.scope.names.lookup w = some .local) (hd : (w == ("__debug__" : Str)) = false) (hcd : (w == ("__classdict__" : Str)) = false)
    (hz : Zc k d o) (hf : ∃ vs, o.data = .fields vs) : PSs (X.suite a ((a, o) :: pn)) [.Return (some (.Tuple [.Constant (.str t) k1 p1, .Attribute (.Name w p2) "at" p3] k2 p4)) p5] (clT ca i c t a k d) := by
  have hv : Vis (X.suite a ((a, o) :: pn)).env.scope w := .inl hl
  have r1 := pe_xf (X := X) (a := a) (oe := o) (cls := k) (d := d) (pn := pn) (pos := p3) (n := "at") T.xf T.no hz hf (pe_var (X := X.suite a ((a, o) :: pn)) (i := i) (pos := p2) hw hv hd hcd)
  have r2 := pss_one (ps_ret (pos := p5) (pe_tupF (X := X.suite a ((a, o) :: pn)) (k := k2) (pos := p4) (pa_cons (pe_str (j := k1) (pos := p1) (x := t)) (pa_cons r1 pa_nil))))
  refine ⟨fun pins s σ H D I h => ?_⟩
  obtain ⟨dx, v, τ0, e1, e2, e3, e4, e5⟩ := h
  have hlen : σ.length = X.N.length := I.len
  have hi : i < X.N.length := (List.getElem?_eq_some_iff.mp hw).1
  have hat : σ[i]? = some (some (.ref a)) := by
    rw [e4] at hlen ⊢
    rw [List.length_set] at hlen
    rw [List.getElem?_set_self (by omega)]
  refine r2.run pins s σ H D I ⟨.ref a, hat, rfl, e1, dx, _, v, e2, e3, by rfl, by rw [sizeLine_eq]; show 2 ≤ _; omega, fun p o' ho hp => e5 p o' ho hp⟩
theorem hds_ok (hw : X.N[i]? = some w) (hl : X.env.scope.names.lookup w = some .local) (hd : (w == ("__debug__" : Str)) = false) (hcd : (w == ("__classdict__" : Str)) = false) : ∀ {hs : List (String × Str)} {hds : List ExceptHandler}, (∀ h ∈ hs, XcK X.prog X.K (ca h.1) ∧ X.mg (Str.ofString h.1) = some (.ref (ca h.1))) → hdC X.env.scope w hs hds = true →
    ClsOk X w hds (hs.map fun h => (.ref (ca h.1), clT ca i h.1 h.2))
  | [], [], _, _ => .nil
  | [], _ :: _, _, h => by unfold hdC at h; cases h
  | _ :: _, [], _, h => by unfold hdC at h; cases h
  | (c, t) :: hs, hd' :: hds, hx, h => by
    unfold hdC at h
    split at h
    · rename_i h1 _; cases h1
    · rename_i h1 h2
      cases h1; cases h2
      simp only [Bool.and_eq_true, decide_eq_true_eq] at h
      obtain ⟨⟨⟨⟨⟨⟨e1, e2⟩, e3⟩, e4⟩, e5⟩, e6⟩, e7⟩ := h
      have e2 := e2.symm
      have e3 := e3.symm
      have e4 := e4.symm
      subst e1 e2 e3 e4 e5
      unfold glS at e6
      simp only [Bool.and_eq_true, decide_eq_true_eq, Bool.not_eq_true'] at e6
      obtain ⟨T, hm⟩ := hx _ List.mem_cons_self
      exact .cons ⟨e6.1, e6.2, .inl hm⟩ (fun a o k d pn hz hf => cl_ok T hw hl hd hcd hz hf) (hds_ok hw hl hd hcd (fun h hh => hx h (List.mem_cons_of_mem _ hh)) e7)
    · cases h
theorem wAll_go {c : String} {t : Str} {dx : Addr} {v : V} {τ : L2.St} {G : Hp} (hx : G dx = some (.xd [(("at" : Str), v)])) (hq : ∀ (p : Addr) (o : Obj), o.dict = none → G p = none → D.rt (.ref p) (upd G p (.frz o (.tup [.str t, v])))) :
    ∀ {hs : List (String × Str)}, (∀ h ∈ hs, PySem.W.exmOne X.K (.ref (ca c)) (.ref (ca h.1)) = some (decide (c = h.1))) → HF.tag hs c = some t → wAll X.K i Wo D (hs.map fun h => (.ref (ca h.1), clT ca i h.1 h.2)) (.ref (ca c)) (some dx) τ G
  | [], _, h => by cases h
  | (c', t') :: hs, he, h => by
    refine ⟨decide (c = c'), he _ List.mem_cons_self, fun e a ha => ?_, fun e => ?_⟩
    · have e := of_decide_eq_true e
      subst e
      unfold HF.tag at h
      rw [List.find?_cons, decide_eq_true rfl] at h
      have h : t' = t := by simpa using h
      subst h
      exact ⟨dx, v, τ, rfl, rfl, hx, rfl, hq⟩
    · have e := of_decide_eq_false e
      refine wAll_go hx hq (fun h hh => he h (List.mem_cons_of_mem _ hh)) ?_
      unfold HF.tag at h ⊢
      rw [List.find?_cons, decide_eq_false (fun z => e z.symm)] at h
      exact h
end
/-! ### a lambda handed to a def that hears of errors -/
def EEh (ca : String → Addr) (hs : List (String × Str)) (Q : VK) : XK := fun k d G => ∃ (c : String) (t : Str) (dx : Addr) (v : V), HF.tag hs c = some t ∧ c ∈ hs.map (·.1) ∧ k = .ref (ca c) ∧ d = some dx ∧ G dx = some (.xd [(("at" : Str), v)]) ∧
  ∀ (p : Addr) (o : Obj), o.dict = none → G p = none → Q (.ref p) (upd G p (.frz o (.tup [.str t, v])))
def QQh (k : HK) (Q : VK) : VK := fun v G => ∀ (p : Addr) (o : Obj), o.dict = none → G p = none → Q (.ref p) (upd G p (.frz o (.tup [.str "told", match k with
  | .zero => .int 0
  | _ => v])))
def TTh (ca : String → Addr) (h : HF) : (XK → Hp → VK → Prop) → Hp → VK → Prop := fun tl G Q => ∀ R : VK, (∀ v G', QQh h.k Q v G' → R v G') → tl (EEh ca h.hs Q) G R
/-- the text of such a def: a its parameter; w (at i) the error's name; y (at j) the name of what is told -/
def heardC (sc : Scope) (a w y : Str) (h : HF) : List Stmt → Bool
  | [.Try [.Return (some (.Tuple [.Constant (.str t) _ _, .Call (.Name b _) [] [] _] _ _)) _] (h0 :: hl) [] [] _] => decide (h.k = .ret) && decide (t = "told") && decide (b = a) && hdC sc w h.hs (h0 :: hl)
  | [.Try [.Assign [.Name z _] (.Call (.Name b _) [] [] _) _] (h0 :: hl) [] [] _, .Return (some (.Tuple [.Constant (.str t) _ _, .Name z2 _] _ _)) _] => decide (h.k = .var) && decide (t = "told") && decide (b = a) && decide (z = y) && decide (z2 = y) && hdC sc w h.hs (h0 :: hl)
  | [.Try [.Expr (.Call (.Name b _) [] [] _) _] (h0 :: hl) [] [] _, .Return (some (.Tuple [.Constant (.str t) _ _, .Constant (.int z) _ _] _ _)) _] => decide (h.k = .zero) && decide (t = "told") && decide (b = a) && decide (z = 0) && hdC sc w h.hs (h0 :: hl)
  | _ => false
def locS (sc : Scope) (y : Str) : Bool := decide (sc.names.lookup y = some NameKind.local) && !(y == ("__debug__" : Str)) && !(y == ("__classdict__" : Str))
theorem ErrOk.sub {P : Program} {K : PySem.W.Frag} {mg : Str → Option Value} {ca : String → Addr} {cs cs' : List String} (e : ErrOk P K mg ca cs) (h : cs'.all (fun c => decide (c ∈ cs)) = true) : ErrOk P K mg ca cs' := by
  rw [List.all_eq_true] at h
  have h := fun c hc => of_decide_eq_true (h c hc)
  exact ⟨fun c hc => e.ex c (h c hc), fun c hc c' hc' => e.exm c (h c hc) c' (h c' hc')⟩
section
variable {X : Cx} {ca : String → Addr}
theorem pss_impT {st : List Stmt} {t u : TS} (h : PSs X st t) (i : ∀ D σ H, u D σ H → t D σ H) : PSs X st u := ⟨fun pins s σ H D I q => h.run pins s σ H D I (i _ _ _ q)⟩
theorem tag_mem {hs : List (String × Str)} {c : String} {t : Str} (h : HF.tag hs c = some t) : c ∈ hs.map (·.1) := by
  unfold HF.tag at h
  cases e : hs.find? fun h => decide (h.1 = c) with
  | none => rw [e] at h; cases h
  | some p =>
    have h1 := List.find?_some e
    have h2 := List.mem_of_find?_eq_some e
    exact List.mem_map.mpr ⟨p, h2, of_decide_eq_true h1⟩
theorem heard_gives {Ng : List Str} {x a w y q : Str} {sg : Scope} {g : Addr} {cdg : Value} {h : HF} {bg : List Stmt} {i j : Nat} (E : ErrOk X.prog X.K X.mg ca (h.hs.map (·.1))) (hb : heardC sg a w y h bg = true) (hnd : Ng.Nodup) (h0 : ∀ f : Addr, (L2.start Ng [V.ref f])[0]? = some (some (V.ref f)))
    (hw : Ng[i]? = some w) (lw : locS sg w = true) (hy : Ng[j]? = some y) (ly : locS sg y = true) : LamX.GivesTo X Ng x sg g cdg bg a q (TTh ca h) := by
  intro f c' s H Q tl act hc hh
  unfold locS at lw ly
  simp only [Bool.and_eq_true, decide_eq_true_eq, Bool.not_eq_true'] at lw ly
  have two : ([V.str "told", V.non] : List V).length ≤ sizeLine := by rw [sizeLine_eq]; show 2 ≤ _; omega
  have hx : ∀ e ∈ h.hs, XcK X.prog X.K (ca e.1) ∧ X.mg (Str.ofString e.1) = some (.ref (ca e.1)) := fun e he => E.ex e.1 (List.mem_map.mpr ⟨e, he, rfl⟩)
  have fire : ∀ {D : Ends} {R : VK} {l : L2.WX}, D.rt = R → ∀ k d σ' G, EEh ca h.hs R k d G → wAll X.K i l D (h.hs.map fun e => (.ref (ca e.1), clT ca i e.1 e.2)) k d σ' G := by
    intro D R l eD k d σ' G hE
    obtain ⟨c, t, dx, v, e1, e2, rfl, rfl, e3, e4⟩ := hE
    subst eD
    exact wAll_go (X := X) e3 e4 (fun e he => E.exm c e2 e.1 (List.mem_map.mpr ⟨e, he, rfl⟩)) e1
  unfold heardC at hb
  split at hb <;> try (cases hb; done)
  · -- return ("told", work())
    rename_i t k1 p1 b p2 p3 k2 p4 p5 h1 hl p6
    simp only [Bool.and_eq_true, decide_eq_true_eq] at hb
    obtain ⟨⟨⟨e1, e2⟩, e3⟩, e4⟩ := hb
    have e3 := e3.symm
    subst e2 e3
    refine ⟨_, pss_one (try_all (X := (cxOf C8.CX0 X.prog X.w X.K X.mg X.base Ng x sg g cdg X.A X.stack s H C8.E0).nox) (i := i) (n := w)
      (tb := fun W D σ H => ∃ Ech : XK, (∀ cls d σ' H', Ech cls d H' → W cls d σ' H') ∧ σ[0]? = some (some (.ref f)) ∧ H c' = some (LamX.CodeO c' q) ∧ tl Ech H (fun v H1 => ([V.str "told", v] : List V).length ≤ sizeLine ∧ ∀ (p : Addr) (o : Obj), o.dict = none → H1 p = none → D.rt (.ref p) (upd H1 p (.frz o (.tup [V.str "told", v])))))
      rfl rfl hnd hw lw.1.1 LamX.takes0 (fun W pn xe tk _ => ?_) (hds_ok (X := (cxOf C8.CX0 X.prog X.w X.K X.mg X.base Ng x sg g cdg X.A X.stack s H C8.E0).nox) (i := i) hw lw.1.1 lw.1.2 lw.2 hx e4)), ?_⟩
    · refine ⟨fun pins s' σ H' D I ⟨Ech, hW, g1, g2, g3⟩ => ?_⟩
      exact (pss_one (ps_ret (pos := p5) (pe_tupF (k := k2) (pos := p4) (pa_cons (pe_str (j := k1) (pos := p1) (x := "told")) (pa_cons (act W pn xe Ech p2 p3 tk hW) pa_nil))))).run pins s' σ H' D I ⟨g1, g2, g3⟩
    · exact ⟨EEh ca h.hs Q, fire rfl, h0 f, hc, hh _ fun v G' hq => ⟨two, fun p o ho hp => by rw [e1] at hq; exact hq p o ho hp⟩⟩
  · -- told = work(); return ("told", told)
    rename_i z pz b p2 p3 p4 h1 hl p5 t k1 p6 z2 pz2 k2 p7 p8
    simp only [Bool.and_eq_true, decide_eq_true_eq] at hb
    obtain ⟨⟨⟨⟨⟨e1, e2⟩, e3⟩, e5⟩, e6⟩, e4⟩ := hb
    have e3 := e3.symm
    have e5 := e5.symm
    have e6 := e6.symm
    subst e2 e3 e5 e6
    let tail : TS := tRet (fun σ H Q => ∃ v, σ[j]? = some (some v) ∧ ∀ (p : Addr) (o : Obj), o.dict = none → H p = none → Q (.ref p) (upd H p (.frz o (.tup [V.str "told", v]))))
    have r2 : PSs (cxOf C8.CX0 X.prog X.w X.K X.mg X.base Ng x sg g cdg X.A X.stack s H C8.E0).nox [.Return (some (.Tuple [.Constant (.str "told") k1 p6, .Name y pz2] k2 p7)) p8] tail := by
      refine pss_impT (pss_one (ps_ret (pos := p8) (pe_tupF (k := k2) (pos := p7) (pa_cons (pe_str (j := k1) (pos := p6) (x := "told")) (pa_cons (pe_var (X := (cxOf C8.CX0 X.prog X.w X.K X.mg X.base Ng x sg g cdg X.A X.stack s H C8.E0).nox) (i := j) (pos := pz2) hy (.inl ly.1.1) ly.1.2 ly.2) pa_nil))))) fun D σ H hq => ?_
      obtain ⟨v, g1, g2⟩ := hq
      exact ⟨v, g1, two, g2⟩
    refine ⟨_, pss_cons (try_all (X := (cxOf C8.CX0 X.prog X.w X.K X.mg X.base Ng x sg g cdg X.A X.stack s H C8.E0).nox) (i := i) (n := w)
      (tb := fun W D σ H => ∃ Ech : XK, (∀ cls d σ' H', Ech cls d H' → W cls d σ' H') ∧ σ[0]? = some (some (.ref f)) ∧ H c' = some (LamX.CodeO c' q) ∧ tl Ech H (fun v H1 => D.nx (σ.set j (some v)) H1))
      rfl rfl hnd hw lw.1.1 LamX.takes0 (fun W pn xe tk _ => ?_) (hds_ok (X := (cxOf C8.CX0 X.prog X.w X.K X.mg X.base Ng x sg g cdg X.A X.stack s H C8.E0).nox) (i := i) hw lw.1.1 lw.1.2 lw.2 hx e4)) r2, ?_⟩
    · refine ⟨fun pins s' σ H' D I ⟨Ech, hW, g1, g2, g3⟩ => ?_⟩
      exact (pss_one (ps_set (X := (cxOf C8.CX0 X.prog X.w X.K X.mg X.base Ng x sg g cdg X.A X.stack s H C8.E0).tr pn xe) (i := j) (pos := p4) hnd hy (.inl ly.1.1) (act W pn xe Ech p2 p3 tk hW) (swaps_plain rfl) (.inr ly.1.1))).run pins s' σ H' D I ⟨g1, g2, g3⟩
    · refine ⟨EEh ca h.hs Q, fire rfl, h0 f, hc, hh _ fun v G' hq => ⟨v, ?_, fun p o ho hp => by rw [e1] at hq; exact hq p o ho hp⟩⟩
      have hj := (List.getElem?_eq_some_iff.mp hy).1
      rw [List.getElem?_set_self (by unfold L2.start; simp only [List.length_append, List.length_map, List.length_replicate]; simp; omega)]
  · -- work(); return ("told", 0)
    rename_i b p2 p3 p4 h1 hl p5 t k1 p6 z k3 p9 k2 p7 p8
    simp only [Bool.and_eq_true, decide_eq_true_eq] at hb
    obtain ⟨⟨⟨⟨e1, e2⟩, e3⟩, e5⟩, e4⟩ := hb
    have e3 := e3.symm
    subst e2 e3 e5
    let tail : TS := tRet (fun σ H Q => ∀ (p : Addr) (o : Obj), o.dict = none → H p = none → Q (.ref p) (upd H p (.frz o (.tup [V.str "told", .int 0]))))
    have r2 : PSs (cxOf C8.CX0 X.prog X.w X.K X.mg X.base Ng x sg g cdg X.A X.stack s H C8.E0).nox [.Return (some (.Tuple [.Constant (.str "told") k1 p6, .Constant (.int 0) k3 p9] k2 p7)) p8] tail := by
      refine pss_impT (pss_one (ps_ret (pos := p8) (pe_tupF (k := k2) (pos := p7) (pa_cons (pe_str (j := k1) (pos := p6) (x := "told")) (pa_cons (pe_int (i := 0) (j := k3) (pos := p9)) pa_nil))))) fun D σ H hq => ?_
      exact ⟨two, hq⟩
    refine ⟨_, pss_cons (try_all (X := (cxOf C8.CX0 X.prog X.w X.K X.mg X.base Ng x sg g cdg X.A X.stack s H C8.E0).nox) (i := i) (n := w)
      (tb := fun W D σ H => ∃ Ech : XK, (∀ cls d σ' H', Ech cls d H' → W cls d σ' H') ∧ σ[0]? = some (some (.ref f)) ∧ H c' = some (LamX.CodeO c' q) ∧ tl Ech H (fun v H1 => D.nx σ H1))
      rfl rfl hnd hw lw.1.1 LamX.takes0 (fun W pn xe tk _ => ?_) (hds_ok (X := (cxOf C8.CX0 X.prog X.w X.K X.mg X.base Ng x sg g cdg X.A X.stack s H C8.E0).nox) (i := i) hw lw.1.1 lw.1.2 lw.2 hx e4)) r2, ?_⟩
    · refine ⟨fun pins s' σ H' D I ⟨Ech, hW, g1, g2, g3⟩ => ?_⟩
      exact (pss_one (ps_expr (pos := p4) (act W pn xe Ech p2 p3 tk hW) (swaps_plain rfl))).run pins s' σ H' D I ⟨g1, g2, g3⟩
    · exact ⟨EEh ca h.hs Q, fire rfl, h0 f, hc, hh _ fun v G' hq p o ho hp => by rw [e1] at hq; exact hq p o ho hp⟩
/-- a def that hears of errors stands in the module -/
structure HeardK (P : Program) (K : PySem.W.Frag) (mg : Str → Option Value) (ca : String → Addr) (g : String) (h : HF) : Prop where
  ex : ∃ (gA : Addr) (fd : FuncData) (pg : Arguments) (bg : List Stmt) (sg : Scope) (Ng : List Str) (a w y : Str) (i j : Nat), mg (Str.ofString g) = some (.ref gA) ∧ FunD K (Str.ofString g) (Str.ofString g) pg bg sg [] [] gA fd ∧ L2.Binds K fd [a] [] ∧ FnScope Ng [a] sg ∧
    Ng[0]? = some a ∧ locS sg a = true ∧ Ng[i]? = some w ∧ locS sg w = true ∧ Ng[j]? = some y ∧ locS sg y = true ∧ heardC sg a w y h bg = true
  err : ErrOk P K mg ca (h.hs.map (·.1))
theorem rep_extN {K : PySem.W.Frag} {ρ : Pl} {M : Sto} {H H1 : Hp} (rp : Rep K ρ M H) (e : LamX.ExtN H H1) (t : LamX.Tabs (tbK K) H1) : Rep K ρ M H1 ∧ Ext ρ M H ρ M H1 := by
  have hq : ∀ b ∈ ρ.hid, H1 b = H b := fun b hb => by
    obtain ⟨_, xs, hx⟩ := rp.hid b hb
    rw [hx, e _ _ hx not_lst]
  have x : Ext ρ M H ρ M H1 := ⟨⟨[], by simp⟩, rfl, hq, fun b o hb tb nb => ⟨e b o hb tb, nb⟩⟩
  refine ⟨⟨rp.len, rp.nd, fun i a u h1 h2 => ?_, fun b hb => ⟨(rp.hid b hb).1, by rw [hq b hb]; exact (rp.hid b hb).2⟩, fun p hp => ⟨(rp.tab p hp).1, (rp.tab p hp).2.1, t p hp⟩⟩, x⟩
  have r := rp.obj i a u h1 h2
  refine r.ext x ?_
  cases r with
  | dead h n => rw [h, e _ _ h n]
  | lst h _ _ => rw [h, e _ _ h not_lst]
  | dct h _ _ => rw [h, e _ _ h (fun _ z => by cases z)]
def lamP : Arguments → Bool
  | ⟨[], [], none, [], [], none, []⟩ => true
  | _ => false
theorem z_heard {W : WX} {C : Calls} {body : E} {pb : Expr} {lv : Nat} {g : String} {h : HF} {params : Arguments} {scope : Scope} {p lpos pos : Pos} (hk : HeardK X.prog X.K X.mg ca g h) (hg : Gl X (Str.ofString g)) (hdb : (Str.ofString g == ("__debug__" : Str)) = false)
    (TB : ∃ c P, (c, P, X.env.qual ++ ("<lambda>" : Str)) ∈ csK X.K ∧ X.env.code = .ref c ∧ LamX.TabB X.base X.mg c P) (hu : ∀ p ∈ tbK X.K, ∀ p' ∈ tbK X.K, p.1 = p'.1 → p.2 = p'.2) (hr : Room (lv + 2) X.A) (hL : LamX.lamSB X.env.scope scope = true) (hp : lamP params = true)
    (hbody : ∀ (A : Around) (outer : List Env) (s : Shared) (H : Hp) (E : XK) (f c' : Addr), Room lv (A.deeper (LamX.lamEnv X scope s.heap.objs.size f c')) → PE (LamX.lamCx X A outer s H E scope f c') pb (zE (LamX.lamCx X A outer s H E scope f c') ca (fun c d _ H => E c d H) C body)) :
    PE X (.Call (.Name (Str.ofString g) p) [.Lambda params pb scope lpos] [] pos) (zE X ca W C (.heard g h body)) := by
  obtain ⟨gA, fd, pg, bg, sg, Ng, a, w, y, i, j, k1, k2, k3, k4, k5, k6, k7, k8, k9, k10, k11⟩ := hk.ex
  obtain ⟨oc, od, dV, kV, doc, pm, an, cdv, ct, osl, rfl, lk, hcd, hD, hK⟩ := k2.ex
  obtain ⟨c, P, t1, t2, t3⟩ := TB
  have hl6 := k6
  unfold locS at hl6
  simp only [Bool.and_eq_true, decide_eq_true_eq, Bool.not_eq_true'] at hl6
  have hmem : (P, X.env.qual ++ ("<lambda>" : Str)) ∈ tbK X.K := List.mem_map.mpr ⟨_, t1, rfl⟩
  have hnd := k4.nd
  have rule := LamX.pe_lamcall (X := X) (T := tbK X.K) (TT := TTh ca h) (p := p) (lpos := lpos) (pos := pos) (body := pb) (params := params) (t := fun E => rd X.K ca (rDD X.K) (fun c d _ H => E c d H) fun env M => evE C body env M) hg k1 k2.kp lk hcd k3 k4 k5 (.inl hl6.1.1)
    (heard_gives hk.err k11 hnd (fun f => by unfold L2.start; simp) k7 k8 k9 k10) t3 t2 hmem (fun q hq e => hu q hq _ hmem e) hr (LamX.lamS_by hL) (by
      unfold lamP at hp
      split at hp
      · rfl
      · cases hp) (fun q cl pm cv ctv => by
      unfold lamP at hp
      split at hp
      · rfl
      · cases hp) (fun A outer s H E f c' hr' => hbody A outer s H E f c' hr') hdb hl6.1.2 hl6.2
  refine pe_imp rule fun σ H Q hq => ?_
  obtain ⟨ρ, env, M, rp, re, f⟩ := hq
  dsimp only [evE] at f
  refine ⟨fun q hq => (rp.tab q hq).2.2, fun H1 e1 tt1 R hR => ?_⟩
  obtain ⟨rp1, x1⟩ := rep_extN rp e1 tt1
  refine ⟨ρ, env, M, rp1, re.ext x1, ?_⟩
  have f1 := f.go x1
  show Fi X.K ca (rDD X.K) _ σ ρ M H1 (evE C body env M) R
  cases he : evE C body env M with
  | fail => rw [he] at f1; exact f1.elim
  | ok d M1 =>
    rw [he] at f1
    intro ρ' H' v rp' x' qv
    refine hR v H' fun q o ho hq => ?_
    have q2 : RDs X.K H' (Al ρ' M1) ρ' [.str "told", match h.k with
      | .zero => .int 0
      | _ => d] [V.str "told", match h.k with
      | .zero => .int 0
      | _ => v] := by
      refine .cons (.str _) (.cons ?_ .nil)
      split
      · exact .int 0
      · exact qv
    obtain ⟨r1, y1, q1⟩ := rp'.newT hq ho (by rw [sizeLine_eq]; show 2 ≤ _; omega) q2
    exact f1 ρ' _ _ r1 (x'.trans y1) q1
  | exc c pd M1 =>
    rw [he] at f1
    cases pd with
    | none => exact f1.elim
    | some d =>
      dsimp only [hearD] at f1
      cases ht : HF.tag h.hs c with
      | none => rw [ht] at f1; exact f1.elim
      | some t =>
        rw [ht] at f1
        intro ρ' H' cv dd rp' x' ⟨ecv, a', v, ed, na, ha, qv⟩
        refine ⟨c, t, a', v, ht, tag_mem ht, ecv, ed, ha, fun q o ho hq => ?_⟩
        obtain ⟨r1, y1, q1⟩ := rp'.newT hq ho (by rw [sizeLine_eq]; show 2 ≤ _; omega) (.cons (.str t) (.cons qv .nil))
        exact f1 ρ' _ _ r1 (x'.trans y1) q1
end
end Z


/-! Z14: a checker of expressions, and that it is right. -/
namespace Z
open PySem L2 PySem.Spec PyProof.Rows

mutual
def D.same : D → D → Bool
  | .non, .non => true
  | .bl a, .bl b => a == b
  | .int i, .int j => decide (i = j)
  | .str x, .str y => decide (x = y)
  | .tup xs, .tup ys => D.sames xs ys
  | .lst xs, .lst ys => D.sames xs ys
  | .scr xs, .scr ys => D.sames xs ys
  | .loc n, .loc m => decide (n = m)
  | _, _ => false
def D.sames : List D → List D → Bool
  | [], [] => true
  | x :: xs, y :: ys => D.same x y && D.sames xs ys
  | _, _ => false
end
mutual
theorem same_eq : ∀ {a b : D}, D.same a b = true → a = b
  | .non, b, h => by cases b <;> first | rfl | cases h
  | .bl _, b, h => by cases b <;> first | (unfold D.same at h; simp at h; rw [h]) | cases h
  | .int _, b, h => by cases b <;> first | (unfold D.same at h; simp at h; rw [h]) | cases h
  | .str _, b, h => by cases b <;> first | (unfold D.same at h; simp at h; rw [h]) | cases h
  | .tup xs, b, h => by
    cases b <;> try (cases h; done)
    rename_i ys
    rw [sames_eq (show D.sames xs ys = true from h)]
  | .lst xs, b, h => by
    cases b <;> try (cases h; done)
    rename_i ys
    rw [sames_eq (show D.sames xs ys = true from h)]
  | .scr xs, b, h => by
    cases b <;> try (cases h; done)
    rename_i ys
    rw [sames_eq (show D.sames xs ys = true from h)]
  | .loc _, b, h => by cases b <;> first | (unfold D.same at h; simp at h; rw [h]) | cases h
theorem sames_eq : ∀ {a b : List D}, D.sames a b = true → a = b
  | [], [], _ => rfl
  | [], _ :: _, h => by unfold D.sames at h; cases h
  | _ :: _, [], h => by unfold D.sames at h; cases h
  | x :: xs, y :: ys, h => by
    unfold D.sames at h
    rw [Bool.and_eq_true] at h
    rw [same_eq h.1, sames_eq h.2]
end
/-- what the module's names stand for: constants; defs that may be called (by place, by keywords) -/
structure Mo where
  gl : List (String × D)
  fs : List (String × Option (List Str × List Nat))
  hs : List (String × HF)
  ex : List String
/-- where no lambda is made, nothing raised -/
def Mo.low (mo : Mo) : Mo := ⟨mo.gl, mo.fs, [], []⟩
def bltN : List Str := ["len", "abs", "int", "all", "any", "sum", "max", "min", "tuple", "list", "sorted", "dict", "str", "set", "isinstance", "range", "enumerate", "zip", "bool", "NoneType", "super"]
theorem room65 {k : Nat} {A : Around} (r : Room k A) : A.units + 65 < cLine := by have := r.un; omega
structure MoOk (X : Cx) (ca : String → Addr) (C : Calls) (mo : Mo) : Prop where
  calm : X.calm = true
  un : X.A.units + 65 < cLine
  gl : ∀ p ∈ mo.gl, ∃ v u, X.mg (Str.ofString p.1) = some u ∧ RelV v u ∧ ∀ H al ρ, RD X.K H al ρ p.2 v
  fs : ∀ p ∈ mo.fs, FnZ X ca C p.1 (Str.ofString p.1) p.2
  bl : ∀ x ∈ bltN, X.mg x = none
  lam : mo.hs ≠ [] → (∃ lv, (∀ p ∈ mo.fs, FnL X ca C p.1 (Str.ofString p.1) p.2 lv) ∧ Room (lv + 2) X.A) ∧ (∃ c P, (c, P, X.env.qual ++ ("<lambda>" : Str)) ∈ csK X.K ∧ X.env.code = .ref c ∧ LamX.TabB X.base X.mg c P) ∧ (∀ p ∈ tbK X.K, ∀ p' ∈ tbK X.K, p.1 = p'.1 → p.2 = p'.2)
  hs : ∀ p ∈ mo.hs, HeardK X.prog X.K X.mg ca p.1 p.2
  ex : ErrOk X.prog X.K X.mg ca mo.ex
  rr : mo.ex ≠ [] → Room 2 X.A ∧ X.stack = X.env :: X.outer ∧ X.env.frame = some X.env.locals
def dbgC (x : Str) : Bool := !(x == ("__debug__" : Str)) && !(x == ("__classdict__" : Str))
def visC (c : CC) (x : Str) : Bool := match c.sc.names.lookup x with
  | some .local => true
  | some .cell => true
  | some .free => true
  | _ => false
def glC (c : CC) (x : Str) : Bool := decide (c.sc.names.lookup x = some .globalImplicit) && dbgC x
def bltC (c : CC) (x : Str) : Bool := glC c x && decide (x ∈ bltN)
def hasF (mo : Mo) (f : String) (k : Option (List Str × List Nat)) : Bool := mo.fs.any fun p => decide (p.1 = f) && decide (p.2 = k)
def hasG (mo : Mo) (g : String) (d : D) : Bool := mo.gl.any fun p => decide (p.1 = g) && D.same p.2 d
def hasH (mo : Mo) (g : String) (h : HF) : Bool := mo.hs.any fun p => decide (p.1 = g) && decide (p.2 = h)
def ownL (c : CC) (own : List Nat) : List (Str × Nat) := own.filterMap fun i => (c.N[i]?).map fun x => (x, i)
def inner (c : CC) (scope : Scope) : CC := ⟨c.N, relS scope c.sc, fun x => scope.names.lookup x == some .cell⟩
def lamC (c : CC) (scope : Scope) : CC := ⟨c.N, scope, fun _ => false⟩
def typC (c : CC) : Bool := [Ty.int, .bool, .str, .tup, .lst, .dct].all fun t => true
def tysG (c : CC) (ts : List Ty) : Bool := ts.all fun t => bltC c (tyN t)
mutual
/-- may it be a test? -/
def tstE : E → Bool
  | .ite _ _ _ => false
  | .frz _ => false
  | .not a => tstE a
  | .boo _ es => tstEs es
  | _ => true
def tstEs : Es → Bool
  | .nil => true
  | .cons a r => tstE a && tstEs r
end
mutual
def chkE (mo : Mo) (c : CC) : E → Expr → Bool
  | .nvr, _ => true
  | .var i, pe => (match pe with
    | .Name x _ => decide (c.N[i]? = some x) && visC c x && dbgC x
    | _ => false)
  | .cst d, pe => (match d, pe with
    | .int i, .Constant (.int j) _ _ => decide (i = j)
    | .bl i, .Constant (.bool j) _ _ => decide (i = j)
    | .non, .Constant .none _ _ => true
    | .str i, .Constant (.str j) _ _ => decide (i = j)
    | _, _ => false)
  | .gl g d, pe => (match pe with
    | .Name x _ => decide (x = Str.ofString g) && glC c x && hasG mo g d
    | _ => false)
  | .bin op a b, pe => (match pe with
    | .BinOp pa o pb _ => decide (o = bopOf op) && chkE mo c a pa && chkE mo c b pb
    | _ => false)
  | .neg a, pe => (match pe with
    | .UnaryOp o pa _ => decide (o = .USub) && chkE mo c a pa
    | _ => false)
  | .cmp op a b, pe => (match pe with
    | .Compare pa [o] [pb] _ => decide (o = copOf op) && plainX pb && chkE mo c a pa && chkE mo c b pb
    | _ => false)
  | .chain o1 o2 a b d, pe => (match pe with
    | .Compare pa [p1, p2] [pb, pd] _ => decide (p1 = copOf o1) && decide (p2 = copOf o2) && plainX pd && chkE mo c a pa && chkE mo c b pb && chkE mo c d pd
    | _ => false)
  | .isN g a, pe => (match pe with
    | .Compare pa [o] [.Constant k _ _] _ => decide (o = if g then .IsNot else .Is) && decide (k = .none) && chkE mo c a pa
    | _ => false)
  | .isB g b a, pe => (match pe with
    | .Compare pa [o] [.Constant k _ _] _ => decide (o = if g then .IsNot else .Is) && decide (k = .bool b) && chkE mo c a pa
    | _ => false)
  | .boo k es, pe => (match pe with
    | .BoolOp o ps _ => decide (o = bopB k) && decide (ps ≠ []) && chkEs mo c es ps
    | _ => false)
  | .not a, pe => (match pe with
    | .UnaryOp o pa _ => decide (o = .Not) && chkE mo c a pa
    | _ => false)
  | .ite d a b, pe => (match pe with
    | .IfExp pd pa pb _ => tstE d && chkE mo c d pd && chkE mo c a pa && chkE mo c b pb
    | _ => false)
  | .tup es, pe => (match pe with
    | .Tuple ps _ _ => fitLen es.len && ps.all plainX && chkEs mo c es ps
    | _ => false)
  | .tstar a b, pe => (match pe with
    | .Tuple [pa, .Starred pb _] _ _ => plainX pa && chkE mo c a pa && chkE mo c b pb
    | _ => false)
  | .lst _ es, pe => (match pe with
    | .List ps _ => fitLen es.len && ps.all plainX && chkEs mo c es ps
    | _ => false)
  | .dic0, pe => (match pe with
    | .Dict [] [] _ => true
    | _ => false)
  | .idx a i, pe => (match pe with
    | .Subscript pa pb _ => plainX pb && chkE mo c a pa && chkE mo c i pb
    | _ => false)
  | .slc _ a lo hi, pe => (match pe with
    | .Subscript pa (.Slice pl ph none _) _ => chkE mo c a pa && chkO mo c lo pl && chkO mo c hi ph
    | _ => false)
  | .rev _ a, pe => (match pe with
    | .Subscript pa (.Slice none none (some (.UnaryOp o (.Constant k _ _) _)) _) _ => decide (o = .USub) && decide (k = .int 1) && chkE mo c a pa
    | _ => false)
  | .call f es, pe => (match pe with
    | .Call (.Name x _) ps [] _ => decide (x = Str.ofString f) && glC c x && hasF mo f none && ps.all plainX && chkEs mo c es ps
    | _ => false)
  | .callk f es ks π kes, pe => (match pe with
    | .Call (.Name x _) ps kws _ => decide (x = Str.ofString f) && glC c x && hasF mo f (some (ks.map Str.ofString, π)) && ps.all plainX && chkEs mo c es ps && chkK mo c kes kws && decide (kws.map (·.arg) = ks.map fun k => some (Str.ofString k))
    | _ => false)
  | .bi b _ es, pe => (match pe with
    | .Call (.Name x _) ps [] _ => (!b.two && decide (x = biName b) && bltC c x && decide (ps ≠ []) && ps.all plainX && chkEs mo c es ps) || (decide (b = .sset) && (match ps with
      | [.Call (.Name y _) [pa] [] _] => decide (x = "sorted") && decide (y = "set") && bltC c x && bltC c y && plainX pa && chkEs mo c es [pa]
      | _ => false)) || (decide (b = .dzip) && (match ps with
      | [.Call (.Name y _) [pa, pb] [] _] => decide (x = "dict") && decide (y = "zip") && bltC c x && bltC c y && plainX pa && plainX pb && chkEs mo c es [pa, pb]
      | _ => false)) || (decide (b = .ditems) && (match ps with
      | [.Call (.Attribute pa n ap) [] [] q] => decide (x = "list") && decide (n = "items") && bltC c x && baseX pa && (ap.endLine == q.line) && chkEs mo c es [pa]
      | _ => false)) || (decide (b = .lrange) && (match ps with
      | [.Call (.Name y _) [pa] [] _] => decide (x = "list") && decide (y = "range") && bltC c x && bltC c y && plainX pa && chkEs mo c es [pa]
      | [.Call (.Name y _) [pa, pb] [] _] => decide (x = "list") && decide (y = "range") && bltC c x && bltC c y && plainX pa && plainX pb && chkEs mo c es [pa, pb]
      | _ => false))
    | _ => false)
  | .isi a one ts, pe => (match pe with
    | .Call (.Name x _) [pa, pt] [] _ => decide (x = "isinstance") && bltC c x && plainX pa && tysG c ts && fitLen ts.length && chkE mo c a pa && (match one, pt with
      | true, .Name _ _ => tysC ts [pt]
      | false, .Tuple qs _ _ => tysC ts qs
      | _, _ => false)
    | _ => false)
  | .mth f a es, pe => (match pe with
    | .Call (.Attribute pa n ap) ps [] pos => baseX pa && (ap.endLine == pos.line) && chkE mo c a pa && chkEs mo c es ps && ps.all plainX && (match f, ps with
      | .append, [_] => decide (n = "append")
      | .extend, [_] => decide (n = "extend")
      | .pop, [] => decide (n = "pop")
      | .popAt, [_] => decide (n = "pop")
      | .get, [_, _] => decide (n = "get")
      | .index, [_] => decide (n = "index")
      | _, _ => false)
    | _ => false)
  | .frz a, pe => chkE mo c a pe
  | .heard g h body, pe => (match pe with
    | .Call (.Name x _) [.Lambda params pb scope _] [] _ => decide (x = Str.ofString g) && glC c x && hasH mo g h && lamP params && LamX.lamSB c.sc scope && chkE mo.low (lamC c scope) body pb
    | _ => false)
  | .comp2 _ el t it cd t1 it1 c1 own own1, pe => (match pe with
    | .ListComp pl [⟨tg, iter, ifs, as⟩, ⟨tg1, iter1, ifs1, as1⟩] scope _ => decide (as = 0) && decide (as1 = 0) && plainX iter && plainX iter1 && chkIt mo c it tg iter && chkIt mo.low (inner c scope) it1 tg1 iter1 && blkC c.N c.sc scope (ownL c own) && decide ((ownL c own).map (·.2) = own) && (t.slots.all fun i => decide (i ∈ own)) && (t1.slots.all fun i => decide (i ∈ own1)) && (own1.all fun i => decide (i ∈ own)) &&
        tgC (inner c scope) t tg && tgC (inner c scope) t1 tg1 && chkC mo.low (inner c scope) cd ifs && chkC mo.low (inner c scope) c1 ifs1 && chkE mo.low (inner c scope) el pl
    | _ => false)
  | .comp _ el t it cd own, pe => (match pe with
    | .ListComp pl [⟨tg, iter, ifs, as⟩] scope _ => decide (as = 0) && plainX iter && chkIt mo c it tg iter && blkC c.N c.sc scope (ownL c own) && decide ((ownL c own).map (·.2) = own) && (t.slots.all fun i => decide (i ∈ own)) &&
        tgC (inner c scope) t tg && chkC mo.low (inner c scope) cd ifs && chkE mo.low (inner c scope) el pl
    | _ => false)
def chkEs (mo : Mo) (c : CC) : Es → List Expr → Bool
  | .nil, ps => (match ps with
    | [] => true
    | _ => false)
  | .cons e es, ps => (match ps with
    | p :: ps => chkE mo c e p && chkEs mo c es ps
    | _ => false)
def chkK (mo : Mo) (c : CC) : Es → List Keyword → Bool
  | .nil, ps => (match ps with
    | [] => true
    | _ => false)
  | .cons e es, ps => (match ps with
    | p :: ps => chkE mo c e p.value && chkK mo c es ps
    | _ => false)
def chkO (mo : Mo) (c : CC) : Oe → Option Expr → Bool
  | .non, p => (match p with
    | none => true
    | _ => false)
  | .som e, p => (match p with
    | some p => chkE mo c e p
    | _ => false)
def chkC (mo : Mo) (c : CC) : Oe → List Expr → Bool
  | .non, p => (match p with
    | [] => true
    | _ => false)
  | .som e, p => (match p with
    | [p] => tstE e && chkE mo c e p
    | _ => false)
def chkIt (mo : Mo) (c : CC) : Z.It → Expr → Expr → Bool
  | .sq e, _, p => chkE mo c e p
  | .rng es, _, p => (match p with
    | .Call (.Name x _) ps [] _ => decide (x = "range") && bltC c x && ps.all plainX && (decide (ps.length = 1) || decide (ps.length = 2)) && chkEs mo c es ps
    | _ => false)
  | .enm e, tg, p => (match tg, p with
    | .Tuple _ _ _, .Call (.Name x _) [pa] [] _ => decide (x = "enumerate") && bltC c x && plainX pa && chkE mo c e pa
    | _, _ => false)
  | .zip a b, tg, p => (match tg, p with
    | .Tuple _ _ _, .Call (.Name x _) [pa, pb] [] _ => decide (x = "zip") && bltC c x && plainX pa && plainX pb && chkE mo c a pa && chkE mo c b pb
    | _, _ => false)
end
end Z


/-! Z15: the checker of expressions is right. -/
namespace Z
open PySem L2 PySem.Spec PyProof.Rows

section
variable {X : Cx} {ca : String → Addr} {W : WX} {C : Calls} {mo : Mo} {c : CC}
theorem glC_ok (cc : CcOk X c) {x : Str} (h : glC c x = true) : Gl X x ∧ (x == ("__debug__" : Str)) = false := by
  unfold glC dbgC at h
  simp only [Bool.and_eq_true, decide_eq_true_eq, Bool.not_eq_true'] at h
  refine ⟨?_, h.2.1⟩
  show X.env.scope.names.lookup x = _
  rw [cc.sc]; exact h.1
theorem bltC_ok (cc : CcOk X c) (mk : MoOk X ca C mo) {x : Str} (h : bltC c x = true) : Gl X x ∧ X.mg x = none := by
  unfold bltC at h
  rw [Bool.and_eq_true] at h
  exact ⟨(glC_ok cc h.1).1, mk.bl x (of_decide_eq_true h.2)⟩
theorem hasF_ok (mk : MoOk X ca C mo) {f : String} {k : Option (List Str × List Nat)} (h : hasF mo f k = true) : FnZ X ca C f (Str.ofString f) k := by
  unfold hasF at h
  rw [List.any_eq_true] at h
  obtain ⟨p, hp, h⟩ := h
  rw [Bool.and_eq_true] at h
  have e1 : p.1 = f := of_decide_eq_true h.1
  have e2 : p.2 = k := of_decide_eq_true h.2
  have r := mk.fs p hp
  rw [e1, e2] at r
  exact r
theorem hasG_ok (mk : MoOk X ca C mo) {g : String} {d : D} (h : hasG mo g d = true) : ∃ v u, X.mg (Str.ofString g) = some u ∧ RelV v u ∧ ∀ H al ρ, RD X.K H al ρ d v := by
  unfold hasG at h
  rw [List.any_eq_true] at h
  obtain ⟨p, hp, h⟩ := h
  rw [Bool.and_eq_true] at h
  have e1 : p.1 = g := of_decide_eq_true h.1
  have r := mk.gl p hp
  rw [e1, same_eq h.2] at r
  exact r
theorem hasH_ok (mk : MoOk X ca C mo) {g : String} {hf : HF} (h : hasH mo g hf = true) : mo.hs ≠ [] ∧ HeardK X.prog X.K X.mg ca g hf := by
  unfold hasH at h
  rw [List.any_eq_true] at h
  obtain ⟨p, hp, h⟩ := h
  rw [Bool.and_eq_true] at h
  have e1 : p.1 = g := of_decide_eq_true h.1
  have e2 : p.2 = hf := of_decide_eq_true h.2
  have r := mk.hs p hp
  rw [e1, e2] at r
  exact ⟨(fun e => by rw [e] at hp; cases hp), r⟩
theorem tysG_ok (cc : CcOk X c) (mk : MoOk X ca C mo) {ts : List Ty} (h : tysG c ts = true) : ∀ t ∈ ts, Gl X (tyN t) ∧ X.mg (tyN t) = none := by
  unfold tysG at h
  rw [List.all_eq_true] at h
  exact fun t ht => bltC_ok cc mk (h t ht)
theorem visC_ok (cc : CcOk X c) {x : Str} (h : visC c x = true) : Vis X.env.scope x := by
  unfold visC at h
  rw [cc.sc]
  split at h
  · rename_i e; exact .inl e
  · rename_i e; exact .inr (.inl e)
  · rename_i e; exact .inr (.inr e)
  · cases h
theorem inner_cc (cc : CcOk X c) (s : Shared) (H : Hp) (scope : Scope) (D : Addr) (cl : List (Str × Addr)) (fp : List Addr) : CcOk (X.blk s H scope (compEnvC scope cl D X.env) fp) (inner c scope) :=
  ⟨cc.N, by unfold inner; rw [← cc.sc]; rfl, rfl, cc.nd⟩
theorem inner_mo (mk : MoOk X ca C mo) (s : Shared) (H : Hp) (scope : Scope) (D : Addr) (cl : List (Str × Addr)) (fp : List Addr) : MoOk (X.blk s H scope (compEnvC scope cl D X.env) fp) ca C mo.low := ⟨mk.calm, mk.un, mk.gl, mk.fs, mk.bl, fun h => absurd rfl h, (fun _ h => by cases h), ⟨(fun _ h => by cases h), (fun _ h => by cases h)⟩, fun h => absurd rfl h⟩
theorem takesW0 : Takes X W0 := by
  intro u s' x
  obtain ⟨_, _, _, _, _, _, _, _, _, _, _, _, _, _, _, _, z⟩ := x
  exact z.elim
def PEt (X : Cx) (ca : String → Addr) (W : WX) (C : Calls) (e : E) (pe : Expr) : Prop := PE X pe (zE X ca W C e) ∧ (tstE e = true → PT X pe (zT X ca W C e))
theorem PEt.val {e : E} {pe : Expr} (h : PE X pe (zE X ca W C e)) (t : testX pe = true) : PEt X ca W C e pe := ⟨h, fun _ => zt_val h t⟩
theorem PEt.ite {e : E} {pe : Expr} (h : PE X pe (zE X ca W C e)) (t : tstE e = false) : PEt X ca W C e pe := ⟨h, fun h' => by rw [t] at h'; cases h'⟩
structure EsOk (X : Cx) (ca : String → Addr) (W : WX) (C : Calls) (es : Es) (ps : List Expr) : Prop where
  pa : ps.all plainX = true → PA X ps (zEs X ca W C es)
  nil : ps = [] → es = .nil
  len : es.len = ps.length
  boo : ∀ (k : Bool) (pos : Pos), ps ≠ [] → PE X (.BoolOp (bopB k) ps pos) (zB X ca W C k es) ∧ (tstEs es = true → PW X (.BoolOp (bopB k) ps pos) (zBT X ca W C k es))
  one : ∀ p, ps = [p] → ∃ a, es = .cons a .nil ∧ PEt X ca W C a p
  two : ∀ p q, ps = [p, q] → ∃ a b, es = .cons a (.cons b .nil) ∧ PEt X ca W C a p ∧ PEt X ca W C b q
end
mutual
theorem chkE_ok {ca : String → Addr} {C : Calls} : ∀ (e : E) {mo : Mo} {X : Cx} {W : WX} {c : CC} {pe : Expr}, CcOk X c → MoOk X ca C mo → Takes X W → chkE mo c e pe = true → PEt X ca W C e pe
  | .nvr, mo, X, W, c, pe, cc, mk, tk, h => ⟨⟨fun _ _ _ _ _ _ ⟨_, _, _, _, _, f⟩ => by dsimp only [evE] at f; exact f.elim⟩, fun _ => ⟨fun _ _ _ _ _ _ ⟨_, _, _, _, _, f⟩ => by dsimp only [evE] at f; exact f.elim⟩⟩
  | .var i, mo, X, W, c, pe, cc, mk, tk, h => by
    unfold chkE at h
    split at h <;> try (cases h; done)
    rename_i x p
    unfold dbgC at h
    simp only [Bool.and_eq_true, decide_eq_true_eq, Bool.not_eq_true'] at h
    exact .val (z_var (by rw [cc.N]; exact h.1.1) (visC_ok cc h.1.2) h.2.1 h.2.2) rfl
  | .cst d, mo, X, W, c, pe, cc, mk, tk, h => by
    unfold chkE at h
    split at h <;> try (cases h; done)
    · rw [of_decide_eq_true h]; exact .val z_int rfl
    · rw [of_decide_eq_true h]; exact .val z_bl rfl
    · exact .val z_non rfl
    · rw [of_decide_eq_true h]; exact .val z_str rfl
  | .gl g d, mo, X, W, c, pe, cc, mk, tk, h => by
    unfold chkE at h
    split at h <;> try (cases h; done)
    rename_i x p
    simp only [Bool.and_eq_true, decide_eq_true_eq] at h
    obtain ⟨⟨rfl, h2⟩, h3⟩ := h
    obtain ⟨h4, h5⟩ := glC_ok cc h2
    obtain ⟨v, u, h6, h7, h8⟩ := hasG_ok mk h3
    exact .val (z_gl h4 h6 h7 h8 h5) rfl
  | .bin op a b, mo, X, W, c, pe, cc, mk, tk, h => by
    unfold chkE at h
    split at h <;> try (cases h; done)
    simp only [Bool.and_eq_true, decide_eq_true_eq] at h
    obtain ⟨⟨rfl, h2⟩, h3⟩ := h
    exact .val (z_bin (chkE_ok a cc mk tk h2).1 (chkE_ok b cc mk tk h3).1) rfl
  | .neg a, mo, X, W, c, pe, cc, mk, tk, h => by
    unfold chkE at h
    split at h <;> try (cases h; done)
    simp only [Bool.and_eq_true, decide_eq_true_eq] at h
    obtain ⟨rfl, h2⟩ := h
    exact .val (z_neg (chkE_ok a cc mk tk h2).1) rfl
  | .cmp op a b, mo, X, W, c, pe, cc, mk, tk, h => by
    unfold chkE at h
    split at h <;> try (cases h; done)
    simp only [Bool.and_eq_true, decide_eq_true_eq] at h
    obtain ⟨⟨⟨rfl, h1⟩, h2⟩, h3⟩ := h
    exact ⟨z_cmp mk.un (chkE_ok a cc mk tk h2).1 (chkE_ok b cc mk tk h3).1 h1, fun _ => zt_cmp mk.un (chkE_ok a cc mk tk h2).1 (chkE_ok b cc mk tk h3).1 h1⟩
  | .chain o1 o2 a b d, mo, X, W, c, pe, cc, mk, tk, h => by
    unfold chkE at h
    split at h <;> try (cases h; done)
    simp only [Bool.and_eq_true, decide_eq_true_eq] at h
    obtain ⟨⟨⟨⟨⟨rfl, rfl⟩, h1⟩, h2⟩, h3⟩, h4⟩ := h
    exact ⟨z_chain mk.un (chkE_ok a cc mk tk h2).1 (chkE_ok b cc mk tk h3).1 (chkE_ok d cc mk tk h4).1 h1, fun _ => zt_chain mk.un (chkE_ok a cc mk tk h2).1 (chkE_ok b cc mk tk h3).1 (chkE_ok d cc mk tk h4).1 h1⟩
  | .isN g a, mo, X, W, c, pe, cc, mk, tk, h => by
    unfold chkE at h
    split at h <;> try (cases h; done)
    simp only [Bool.and_eq_true, decide_eq_true_eq] at h
    obtain ⟨⟨rfl, rfl⟩, h2⟩ := h
    have ih := (chkE_ok a cc mk tk h2).1
    cases g with
    | false => exact ⟨z_isN ih, fun _ => zt_isN ih⟩
    | true => exact ⟨z_notN ih, fun _ => zt_notN ih⟩
  | .isB g b a, mo, X, W, c, pe, cc, mk, tk, h => by
    unfold chkE at h
    split at h <;> try (cases h; done)
    simp only [Bool.and_eq_true, decide_eq_true_eq] at h
    obtain ⟨⟨rfl, rfl⟩, h2⟩ := h
    have ih := (chkE_ok a cc mk tk h2).1
    cases g with
    | false => exact ⟨z_isB ih, fun _ => zt_isB ih⟩
    | true => exact ⟨z_notB ih, fun _ => zt_notB ih⟩
  | .boo k es, mo, X, W, c, pe, cc, mk, tk, h => by
    unfold chkE at h
    split at h <;> try (cases h; done)
    rename_i o ps pos
    simp only [Bool.and_eq_true, decide_eq_true_eq] at h
    obtain ⟨⟨rfl, h1⟩, h2⟩ := h
    obtain ⟨g1, g2⟩ := (chkEs_ok es cc mk tk h2).boo k pos h1
    refine ⟨?_, fun ht => ?_⟩
    · exact pe_imp g1 fun σ H Q ⟨ρ, env, M, rp, re, f⟩ => ⟨ρ, env, M, rp, re, by dsimp only [evE] at f; exact f⟩
    · exact pt_imp (g2 (by unfold tstE at ht; exact ht)).pt fun σ H Q ⟨ρ, env, M, rp, re, f⟩ => ⟨ρ, env, M, rp, re, by dsimp only [evE] at f; exact f⟩
  | .not a, mo, X, W, c, pe, cc, mk, tk, h => by
    unfold chkE at h
    split at h <;> try (cases h; done)
    simp only [Bool.and_eq_true, decide_eq_true_eq] at h
    obtain ⟨rfl, h2⟩ := h
    have ih := chkE_ok a cc mk tk h2
    exact ⟨z_not ih.1, fun ht => zt_not (ih.2 (by unfold tstE at ht; exact ht))⟩
  | .ite d a b, mo, X, W, c, pe, cc, mk, tk, h => by
    unfold chkE at h
    split at h <;> try (cases h; done)
    simp only [Bool.and_eq_true, decide_eq_true_eq] at h
    obtain ⟨⟨⟨h1, h2⟩, h3⟩, h4⟩ := h
    exact .ite (z_ite ((chkE_ok d cc mk tk h2).2 h1) (chkE_ok a cc mk tk h3).1 (chkE_ok b cc mk tk h4).1) (by unfold tstE; rfl)
  | .tup es, mo, X, W, c, pe, cc, mk, tk, h => by
    unfold chkE at h
    split at h <;> try (cases h; done)
    simp only [Bool.and_eq_true, decide_eq_true_eq] at h
    exact .val (z_tup h.1.1 ((chkEs_ok es cc mk tk h.2).pa h.1.2)) rfl
  | .tstar a b, mo, X, W, c, pe, cc, mk, tk, h => by
    unfold chkE at h
    split at h <;> try (cases h; done)
    simp only [Bool.and_eq_true, decide_eq_true_eq] at h
    exact .val (z_tstar h.1.1 (chkE_ok a cc mk tk h.1.2).1 (chkE_ok b cc mk tk h.2).1) rfl
  | .lst m es, mo, X, W, c, pe, cc, mk, tk, h => by
    unfold chkE at h
    split at h <;> try (cases h; done)
    simp only [Bool.and_eq_true, decide_eq_true_eq] at h
    exact .val (z_lst h.1.1 ((chkEs_ok es cc mk tk h.2).pa h.1.2)) rfl
  | .dic0, mo, X, W, c, pe, cc, mk, tk, h => by
    unfold chkE at h
    split at h <;> try (cases h; done)
    exact .val z_dic0 rfl
  | .idx a i, mo, X, W, c, pe, cc, mk, tk, h => by
    unfold chkE at h
    split at h <;> try (cases h; done)
    simp only [Bool.and_eq_true, decide_eq_true_eq] at h
    exact .val (z_idx (by have := mk.un; omega) (chkE_ok a cc mk tk h.1.2).1 (chkE_ok i cc mk tk h.2).1 h.1.1) rfl
  | .slc m a lo hi, mo, X, W, c, pe, cc, mk, tk, h => by
    unfold chkE at h
    split at h <;> try (cases h; done)
    simp only [Bool.and_eq_true, decide_eq_true_eq] at h
    exact .val (z_slc (chkE_ok a cc mk tk h.1.1).1 (chkO_ok lo cc mk tk h.1.2) (chkO_ok hi cc mk tk h.2)) rfl
  | .rev m a, mo, X, W, c, pe, cc, mk, tk, h => by
    unfold chkE at h
    split at h <;> try (cases h; done)
    simp only [Bool.and_eq_true, decide_eq_true_eq] at h
    obtain ⟨⟨rfl, rfl⟩, h2⟩ := h
    exact .val (z_rev (chkE_ok a cc mk tk h2).1) rfl
  | .call f es, mo, X, W, c, pe, cc, mk, tk, h => by
    unfold chkE at h
    split at h <;> try (cases h; done)
    simp only [Bool.and_eq_true, decide_eq_true_eq] at h
    obtain ⟨⟨⟨⟨rfl, h1⟩, h2⟩, h3⟩, h4⟩ := h
    have ih := chkEs_ok es cc mk tk h4
    obtain ⟨g1, g2⟩ := glC_ok cc h1
    exact .val (z_call tk (hasF_ok mk h2) g1 g2 h3 (ih.pa h3) ih.nil) rfl
  | .callk f es ks π kes, mo, X, W, c, pe, cc, mk, tk, h => by
    unfold chkE at h
    split at h <;> try (cases h; done)
    rename_i x _ ps kws _
    simp only [Bool.and_eq_true, decide_eq_true_eq] at h
    obtain ⟨⟨⟨⟨⟨⟨rfl, h1⟩, h2⟩, h3⟩, h4⟩, h5⟩, h6⟩ := h
    have ih := chkEs_ok es cc mk tk h4
    obtain ⟨k1, k2⟩ := chkK_ok kes cc mk tk h5
    obtain ⟨g1, g2⟩ := glC_ok cc h1
    have hlen : kws.length = ks.length := by have := congrArg List.length h6; simpa using this
    have hs : kws.all (·.arg.isSome) = true := by
      rw [List.all_eq_true]
      intro q hq
      have : q.arg ∈ kws.map (·.arg) := List.mem_map_of_mem hq
      rw [h6] at this
      obtain ⟨y, _, hy⟩ := List.mem_map.mp this
      rw [← hy]; rfl
    have hn : kws.filterMap (·.arg) = ks.map Str.ofString := by
      have e : kws.filterMap (·.arg) = (kws.map (·.arg)).filterMap id := by rw [List.filterMap_map]; rfl
      rw [e, h6]
      clear h6 hlen h2
      induction ks with
      | nil => rfl
      | cons y r ih2 => rw [List.map_cons, List.filterMap_cons]; simp only [id]; rw [ih2, List.map_cons]
    exact .val (z_callk tk (hasF_ok mk h2) g1 g2 h3 (ih.pa h3) ih.nil k1 hs hn (by rw [k2, hlen, List.length_map])) rfl
  | .bi b m es, mo, X, W, c, pe, cc, mk, tk, h => by
    unfold chkE at h
    split at h <;> try (cases h; done)
    rename_i x _ ps _
    rw [Bool.or_eq_true, Bool.or_eq_true, Bool.or_eq_true, Bool.or_eq_true] at h
    rcases h with (((h | h) | h) | h) | h
    · simp only [Bool.and_eq_true, Bool.not_eq_true', decide_eq_true_eq] at h
      obtain ⟨⟨⟨⟨⟨h1, rfl⟩, h2⟩, h3⟩, h4⟩, h5⟩ := h
      obtain ⟨g1, g2⟩ := bltC_ok cc mk h2
      exact .val (z_bi mk.calm g1 g2 h1 h4 ((chkEs_ok es cc mk tk h5).pa h4) h3) rfl
    · rw [Bool.and_eq_true] at h
      obtain ⟨h0, h⟩ := h
      split at h <;> try (cases h; done)
      rename_i y _ pa _
      simp only [Bool.and_eq_true, decide_eq_true_eq] at h h0
      subst h0
      obtain ⟨⟨⟨⟨⟨rfl, rfl⟩, h2⟩, h3⟩, h4⟩, h5⟩ := h
      obtain ⟨g1, g2⟩ := bltC_ok cc mk h2
      obtain ⟨g3, g4⟩ := bltC_ok cc mk h3
      obtain ⟨a, rfl, ih⟩ := (chkEs_ok es cc mk tk h5).one _ rfl
      exact .val (z_sset mk.calm g1 g2 g3 g4 ih.1 h4) rfl
    · rw [Bool.and_eq_true] at h
      obtain ⟨h0, h⟩ := h
      split at h <;> try (cases h; done)
      rename_i y _ pa pb _
      simp only [Bool.and_eq_true, decide_eq_true_eq] at h h0
      subst h0
      obtain ⟨⟨⟨⟨⟨⟨rfl, rfl⟩, h2⟩, h3⟩, h4⟩, h5⟩, h6⟩ := h
      obtain ⟨g1, g2⟩ := bltC_ok cc mk h2
      obtain ⟨g3, g4⟩ := bltC_ok cc mk h3
      have ih := chkEs_ok es cc mk tk h6
      have hp : [pa, pb].all plainX = true := by rw [List.all_cons, List.all_cons, h4, h5]; rfl
      exact .val (z_dzip mk.calm g1 g2 g3 g4 (ih.pa hp) hp) rfl
    · rw [Bool.and_eq_true] at h
      obtain ⟨h0, h⟩ := h
      split at h <;> try (cases h; done)
      rename_i pa n ap q
      simp only [Bool.and_eq_true, decide_eq_true_eq] at h h0
      subst h0
      obtain ⟨⟨⟨⟨⟨rfl, rfl⟩, h2⟩, h3⟩, h4⟩, h5⟩ := h
      obtain ⟨g1, g2⟩ := bltC_ok cc mk h2
      obtain ⟨a, rfl, ih⟩ := (chkEs_ok es cc mk tk h5).one _ rfl
      exact .val (z_ditems mk.calm g1 g2 ih.1 h3 h4) rfl
    · rw [Bool.and_eq_true] at h
      obtain ⟨h0, h⟩ := h
      split at h <;> try (cases h; done)
      · rename_i y _ pa _
        simp only [Bool.and_eq_true, decide_eq_true_eq] at h h0
        subst h0
        obtain ⟨⟨⟨⟨⟨rfl, rfl⟩, h2⟩, h3⟩, h4⟩, h5⟩ := h
        obtain ⟨g1, g2⟩ := bltC_ok cc mk h2
        obtain ⟨g3, g4⟩ := bltC_ok cc mk h3
        obtain ⟨a, rfl, ih⟩ := (chkEs_ok es cc mk tk h5).one _ rfl
        exact .val (z_lrange1 mk.calm g1 g2 g3 g4 ih.1 h4) rfl
      · rename_i y _ pa pb _
        simp only [Bool.and_eq_true, decide_eq_true_eq] at h h0
        subst h0
        obtain ⟨⟨⟨⟨⟨⟨rfl, rfl⟩, h2⟩, h3⟩, h4⟩, h5⟩, h6⟩ := h
        obtain ⟨g1, g2⟩ := bltC_ok cc mk h2
        obtain ⟨g3, g4⟩ := bltC_ok cc mk h3
        obtain ⟨a, b, rfl, ia, ib⟩ := (chkEs_ok es cc mk tk h6).two _ _ rfl
        exact .val (z_lrange2 mk.calm g1 g2 g3 g4 ia.1 ib.1 h4 h5) rfl
  | .isi a one ts, mo, X, W, c, pe, cc, mk, tk, h => by
    unfold chkE at h
    split at h <;> try (cases h; done)
    rename_i x _ pa pt _
    simp only [Bool.and_eq_true, decide_eq_true_eq] at h
    obtain ⟨⟨⟨⟨⟨⟨rfl, h1⟩, h2⟩, h3⟩, h4⟩, h5⟩, h6⟩ := h
    obtain ⟨g1, g2⟩ := bltC_ok cc mk h1
    have ih := (chkE_ok a cc mk tk h5).1
    have gt := tysG_ok cc mk h3
    split at h6 <;> try (cases h6; done)
    · match ts, h6 with
      | [], h6 => unfold tysC at h6; cases h6
      | [t], h6 =>
        unfold tysC at h6
        simp only [Bool.and_eq_true, decide_eq_true_eq] at h6
        obtain ⟨⟨rfl, h7⟩, _⟩ := h6
        obtain ⟨k1, k2⟩ := gt t List.mem_cons_self
        exact .val (z_isi1 g1 g2 k1 k2 h7 ih h2) rfl
      | _ :: _ :: _, h6 => unfold tysC at h6; rw [Bool.and_eq_true] at h6; exact absurd h6.2 (by unfold tysC; simp)
    · exact .val (z_isiT g1 g2 gt h6 h4 ih h2) rfl
  | .mth f a es, mo, X, W, c, pe, cc, mk, tk, h => by
    unfold chkE at h
    split at h <;> try (cases h; done)
    rename_i pa n ap ps pos
    simp only [Bool.and_eq_true] at h
    obtain ⟨⟨⟨⟨⟨h1, h2⟩, h3⟩, h4⟩, h5⟩, h6⟩ := h
    have ih := (chkE_ok a cc mk tk h3).1
    have ihs := chkEs_ok es cc mk tk h4
    split at h6 <;> try (cases h6; done)
    · rw [of_decide_eq_true h6]
      obtain ⟨b, rfl, ib⟩ := ihs.one _ rfl
      rw [List.all_cons, Bool.and_eq_true] at h5
      exact .val (z_append ih h1 h5.1 ib.1 h2) rfl
    · rw [of_decide_eq_true h6]
      obtain ⟨b, rfl, ib⟩ := ihs.one _ rfl
      rw [List.all_cons, Bool.and_eq_true] at h5
      exact .val (z_extend ih h1 h5.1 ib.1 h2) rfl
    · rw [of_decide_eq_true h6]
      cases ihs.nil rfl
      exact .val (z_pop ih h1 h2) rfl
    · rw [of_decide_eq_true h6]
      obtain ⟨b, rfl, ib⟩ := ihs.one _ rfl
      rw [List.all_cons, Bool.and_eq_true] at h5
      exact .val (z_popAt ih h1 h5.1 ib.1 h2) rfl
    · rw [of_decide_eq_true h6]
      obtain ⟨b, d, rfl, ib, id'⟩ := ihs.two _ _ rfl
      rw [List.all_cons, Bool.and_eq_true, List.all_cons, Bool.and_eq_true] at h5
      exact .val (z_get (by have := mk.un; omega) ih h1 h5.1 h5.2.1 ib.1 id'.1 h2) rfl
    · rw [of_decide_eq_true h6]
      obtain ⟨b, rfl, ib⟩ := ihs.one _ rfl
      rw [List.all_cons, Bool.and_eq_true] at h5
      exact .val (z_index mk.un ih h1 h5.1 ib.1 h2) rfl
  | .frz a, mo, X, W, c, pe, cc, mk, tk, h => by
    unfold chkE at h
    exact .ite (z_frz (chkE_ok a cc mk tk h).1) (by unfold tstE; rfl)
  | .heard g hf body, mo, X, W, c, pe, cc, mk, tk, h => by
    unfold chkE at h
    split at h <;> try (cases h; done)
    rename_i x p params pb scope lpos pos
    simp only [Bool.and_eq_true, decide_eq_true_eq] at h
    obtain ⟨⟨⟨⟨⟨rfl, h1⟩, h2⟩, h3⟩, h4⟩, h5⟩ := h
    obtain ⟨g1, g2⟩ := glC_ok cc h1
    obtain ⟨hne, hk⟩ := hasH_ok mk h2
    obtain ⟨⟨lv, hfs, hr⟩, TB, hu⟩ := mk.lam hne
    refine .val (z_heard hk g1 g2 TB hu hr (by rw [cc.sc]; exact h4) h3 fun A outer s H E f c' hr' => ?_) rfl
    have cc' : CcOk (LamX.lamCx X A outer s H E scope f c') (lamC c scope) := ⟨cc.N, rfl, rfl, cc.nd⟩
    have mk' : MoOk (LamX.lamCx X A outer s H E scope f c') ca C mo.low := ⟨rfl, room65 hr', mk.gl, fun p hp => ⟨lv, hfs p hp, hr'⟩, mk.bl, fun h => absurd rfl h, (fun _ h => by cases h), ⟨(fun _ h => by cases h), (fun _ h => by cases h)⟩, fun h => absurd rfl h⟩
    exact (chkE_ok body cc' mk' (takes_of rfl rfl rfl rfl) h5).1
  | .comp2 m el t it cd t1 it1 c1 own own1, mo, X, W, c, pe, cc, mk, tk, h => by
    unfold chkE at h
    split at h <;> try (cases h; done)
    rename_i pl tg iter ifs as tg1 iter1 ifs1 as1 scope pos
    simp only [Bool.and_eq_true, decide_eq_true_eq] at h
    obtain ⟨⟨⟨⟨⟨⟨⟨⟨⟨⟨⟨⟨⟨⟨⟨rfl, rfl⟩, h1⟩, h2⟩, h3⟩, h4⟩, h5⟩, h6⟩, h7⟩, h8⟩, h9⟩, g1⟩, g2⟩, g3⟩, g4⟩, g5⟩ := h
    rw [List.all_eq_true] at h7 h8 h9
    refine .val (z_comp2 mk.calm cc.nd (chkIt_ok it cc mk tk h3) (ownL := ownL c own) (by rw [cc.N, cc.sc]; exact blkOk_by h5) h6 (fun i hi => of_decide_eq_true (h7 i hi)) (fun i hi => of_decide_eq_true (h8 i hi)) (fun i hi => of_decide_eq_true (h9 i hi)) h1 h2 ?_ ?_ ?_ ?_ ?_ ?_) rfl
    · intro s H D cl fp
      exact pg_z (inner_cc cc s H scope D cl fp) mk.calm g1
    · intro s H D cl fp
      exact chkC_ok cd (inner_cc cc s H scope D cl fp) (inner_mo mk s H scope D cl fp) takesW0 g3
    · intro s H D cl fp
      exact chkIt_ok it1 (inner_cc cc s H scope D cl fp) (inner_mo mk s H scope D cl fp) takesW0 h4
    · intro s H D cl fp
      exact pg_z (inner_cc cc s H scope D cl fp) mk.calm g2
    · intro s H D cl fp
      exact chkC_ok c1 (inner_cc cc s H scope D cl fp) (inner_mo mk s H scope D cl fp) takesW0 g4
    · intro s H D cl fp
      exact (chkE_ok el (inner_cc cc s H scope D cl fp) (inner_mo mk s H scope D cl fp) takesW0 g5).1
  | .comp m el t it cd own, mo, X, W, c, pe, cc, mk, tk, h => by
    unfold chkE at h
    split at h <;> try (cases h; done)
    rename_i pl tg iter ifs as scope pos
    simp only [Bool.and_eq_true, decide_eq_true_eq] at h
    obtain ⟨⟨⟨⟨⟨⟨⟨⟨rfl, h1⟩, h2⟩, h3⟩, h4⟩, h5⟩, h6⟩, h7⟩, h8⟩ := h
    rw [List.all_eq_true] at h5
    refine .val (z_comp mk.calm cc.nd (chkIt_ok it cc mk tk h2) (ownL := ownL c own) (by rw [cc.N, cc.sc]; exact blkOk_by h3) h4 (fun i hi => of_decide_eq_true (h5 i hi)) h1 ?_ ?_ ?_) rfl
    · intro s H D cl fp
      exact pg_z (inner_cc cc s H scope D cl fp) mk.calm h6
    · intro s H D cl fp
      exact chkC_ok cd (inner_cc cc s H scope D cl fp) (inner_mo mk s H scope D cl fp) takesW0 h7
    · intro s H D cl fp
      exact (chkE_ok el (inner_cc cc s H scope D cl fp) (inner_mo mk s H scope D cl fp) takesW0 h8).1
theorem chkEs_ok {ca : String → Addr} {C : Calls} : ∀ (es : Es) {mo : Mo} {X : Cx} {W : WX} {c : CC} {ps : List Expr}, CcOk X c → MoOk X ca C mo → Takes X W → chkEs mo c es ps = true → EsOk X ca W C es ps
  | .nil, mo, X, W, c, ps, cc, mk, tk, h => by
    unfold chkEs at h
    split at h <;> try (cases h; done)
    exact ⟨fun _ => za_nil, fun _ => rfl, rfl, fun _ _ n => absurd rfl n, (by intro _ e; cases e), (by intro _ _ e; cases e)⟩
  | .cons e r, mo, X, W, c, ps, cc, mk, tk, h => by
    unfold chkEs at h
    split at h <;> try (cases h; done)
    rename_i p qs
    rw [Bool.and_eq_true] at h
    have ih := chkE_ok e cc mk tk h.1
    have ihs := chkEs_ok r cc mk tk h.2
    refine ⟨fun hp => ?_, (by intro z; cases z), by rw [Es.len, ihs.len]; rfl, fun k pos _ => ?_, fun p' z => ?_, fun p' q' z => ?_⟩
    · rw [List.all_cons, Bool.and_eq_true] at hp
      exact za_cons hp.1 ih.1 (ihs.pa hp.2)
    · cases qs with
      | nil =>
        cases ihs.nil rfl
        exact ⟨z_boo1 ih.1, fun ht => zw_boo1 (ih.2 (by unfold tstEs at ht; rw [Bool.and_eq_true] at ht; exact ht.1))⟩
      | cons q qs' =>
        obtain ⟨g1, g2⟩ := ihs.boo k pos (by simp)
        cases r with
        | nil => have := ihs.len; cases this
        | cons e2 r2 => exact ⟨z_boo2 ih.1 g1, fun ht => by unfold tstEs at ht; rw [Bool.and_eq_true] at ht; exact zw_boo2 (ih.2 ht.1) (g2 ht.2)⟩
    · cases z
      cases ihs.nil rfl
      exact ⟨e, rfl, ih⟩
    · cases z
      obtain ⟨b, rfl, ib⟩ := ihs.one q' rfl
      exact ⟨e, b, rfl, ih, ib⟩
theorem chkK_ok {ca : String → Addr} {C : Calls} : ∀ (es : Es) {mo : Mo} {X : Cx} {W : WX} {c : CC} {ps : List Keyword}, CcOk X c → MoOk X ca C mo → Takes X W → chkK mo c es ps = true → PK X ps (zEs X ca W C es) ∧ es.len = ps.length
  | .nil, mo, X, W, c, ps, cc, mk, tk, h => by
    unfold chkK at h
    split at h <;> try (cases h; done)
    exact ⟨zk_nil, rfl⟩
  | .cons e r, mo, X, W, c, ps, cc, mk, tk, h => by
    unfold chkK at h
    split at h <;> try (cases h; done)
    rename_i p qs
    obtain ⟨nm, p, kp⟩ := p
    rw [Bool.and_eq_true] at h
    have ih := chkE_ok e cc mk tk h.1
    obtain ⟨g1, g2⟩ := chkK_ok r cc mk tk h.2
    exact ⟨zk_cons ih.1 g1, by rw [Es.len, g2]; rfl⟩
theorem chkO_ok {ca : String → Addr} {C : Calls} : ∀ (o : Oe) {mo : Mo} {X : Cx} {W : WX} {c : CC} {p : Option Expr}, CcOk X c → MoOk X ca C mo → Takes X W → chkO mo c o p = true → PO X p (zO X ca W C o)
  | .non, mo, X, W, c, p, cc, mk, tk, h => by
    unfold chkO at h
    split at h <;> try (cases h; done)
    exact zo_none
  | .som e, mo, X, W, c, p, cc, mk, tk, h => by
    unfold chkO at h
    split at h <;> try (cases h; done)
    exact zo_some (chkE_ok e cc mk tk h).1
theorem chkC_ok {ca : String → Addr} {C : Calls} : ∀ (o : Oe) {mo : Mo} {X : Cx} {W : WX} {c : CC} {p : List Expr}, CcOk X c → MoOk X ca C mo → Takes X W → chkC mo c o p = true → PTs X p (zC X ca W C o)
  | .non, mo, X, W, c, p, cc, mk, tk, h => by
    unfold chkC at h
    split at h <;> try (cases h; done)
    exact pts_non
  | .som e, mo, X, W, c, p, cc, mk, tk, h => by
    unfold chkC at h
    split at h <;> try (cases h; done)
    rw [Bool.and_eq_true] at h
    exact pts_som ((chkE_ok e cc mk tk h.2).2 h.1)
theorem chkIt_ok {ca : String → Addr} {C : Calls} : ∀ (it : Z.It) {mo : Mo} {X : Cx} {W : WX} {c : CC} {tg p : Expr}, CcOk X c → MoOk X ca C mo → Takes X W → chkIt mo c it tg p = true → PI X tg p (zI X ca W C it)
  | .sq e, mo, X, W, c, tg, p, cc, mk, tk, h => by
    unfold chkIt at h
    exact zi_sq (chkE_ok e cc mk tk h).1
  | .rng es, mo, X, W, c, tg, p, cc, mk, tk, h => by
    unfold chkIt at h
    split at h <;> try (cases h; done)
    simp only [Bool.and_eq_true, Bool.or_eq_true, decide_eq_true_eq] at h
    obtain ⟨⟨⟨⟨rfl, h1⟩, h2⟩, h3⟩, h4⟩ := h
    obtain ⟨g1, g2⟩ := bltC_ok cc mk h1
    have ih := chkEs_ok es cc mk tk h4
    exact zi_rng g1 g2 h2 (ih.pa h2) h3 ih.len
  | .enm e, mo, X, W, c, tg, p, cc, mk, tk, h => by
    unfold chkIt at h
    split at h <;> try (cases h; done)
    simp only [Bool.and_eq_true, decide_eq_true_eq] at h
    obtain ⟨⟨⟨rfl, h1⟩, h2⟩, h3⟩ := h
    obtain ⟨g1, g2⟩ := bltC_ok cc mk h1
    exact zi_enm g1 g2 h2 (chkE_ok e cc mk tk h3).1
  | .zip a b, mo, X, W, c, tg, p, cc, mk, tk, h => by
    unfold chkIt at h
    split at h <;> try (cases h; done)
    simp only [Bool.and_eq_true, decide_eq_true_eq] at h
    obtain ⟨⟨⟨⟨⟨rfl, h1⟩, h2⟩, h3⟩, h4⟩, h5⟩ := h
    obtain ⟨g1, g2⟩ := bltC_ok cc mk h1
    exact zi_zip g1 g2 h2 h3 (chkE_ok a cc mk tk h4).1 (chkE_ok b cc mk tk h5).1
end
end Z


/-! Z16: statements. -/
namespace Z
open PySem L2 PySem.Spec PyProof.Rows

def FiS (K : PySem.W.Frag) (ca : String → Addr) (W : WX) (D : Ends) (ρ : Pl) (M : Sto) (H : Hp) (o : Out) : Prop := match o with
  | .ok (.nx env) M' => ∀ ρ' H' σ', Rep K ρ' M' H' → Ext ρ M H ρ' M' H' → RE K ρ' M' H' env σ' → D.nx σ' H'
  | .ok (.brk env) M' => ∀ ρ' H' σ', Rep K ρ' M' H' → Ext ρ M H ρ' M' H' → RE K ρ' M' H' env σ' → D.bk σ' H'
  | .ok (.cnt env) M' => ∀ ρ' H' σ', Rep K ρ' M' H' → Ext ρ M H ρ' M' H' → RE K ρ' M' H' env σ' → D.ct σ' H'
  | .ok (.ret d) M' => ∀ ρ' H' v, Rep K ρ' M' H' → Ext ρ M H ρ' M' H' → RD K H' (Al ρ' M') ρ' d v → D.rt v H'
  | .ok (.exc env c p) M' => ∀ ρ' H' σ' cv dd, Rep K ρ' M' H' → Ext ρ M H ρ' M' H' → RE K ρ' M' H' env σ' → RX K ca H' (Al ρ' M') ρ' c p cv dd → W cv dd σ' H'
  | .fail => False
section
variable {K : PySem.W.Frag} {ca : String → Addr} {W : WX} {D D' : Ends} {ρ ρ1 : Pl} {M M1 : Sto} {H H1 : Hp} {σ : L2.St} {env : En}
theorem FiS.go {o : Out} (x : Ext ρ M H ρ1 M1 H1) (h : FiS K ca W D ρ M H o) : FiS K ca W D ρ1 M1 H1 o := by
  cases o with
  | fail => exact h
  | ok f M' =>
    cases f with
    | nx env => exact fun ρ' H' σ' r y e => h ρ' H' σ' r (x.trans y) e
    | brk env => exact fun ρ' H' σ' r y e => h ρ' H' σ' r (x.trans y) e
    | cnt env => exact fun ρ' H' σ' r y e => h ρ' H' σ' r (x.trans y) e
    | ret d => exact fun ρ' H' v r y e => h ρ' H' v r (x.trans y) e
    | exc env c p => exact fun ρ' H' σ' cv dd r y e q => h ρ' H' σ' cv dd r (x.trans y) e q
theorem FiS.out {α β : Type} {R : Rl α β} {r : Res α} {f : α → Sto → Out} (re : RE K ρ M H env σ) (h : FiS K ca W D ρ M H (r.out env f)) :
    Fi K ca R W σ ρ M H r fun b H1 => ∃ ρ1 M1 a, r = .ok a M1 ∧ Rep K ρ1 M1 H1 ∧ Ext ρ M H ρ1 M1 H1 ∧ R H1 (Al ρ1 M1) ρ1 a b ∧ FiS K ca W D ρ1 M1 H1 (f a M1) := by
  cases r with
  | ok a M' => exact fun ρ' H' b rp x q => ⟨ρ', M', a, rfl, rp, x, q, FiS.go x h⟩
  | exc c p M' => exact fun ρ' H' cv dd rp x q => h ρ' H' σ cv dd rp x (re.ext x) q
  | fail => exact h
theorem FiS.nx {e : En} (rp : Rep K ρ M H) (re : RE K ρ M H e σ) (h : FiS K ca W D ρ M H (.ok (.nx e) M)) : D.nx σ H := h ρ H σ rp .refl re
/-- ends are changed -/
theorem FiS.next {o : Out} {f : En → Sto → Out} (h : FiS K ca W D ρ M H (o.next f)) (h1 : D'.rt = D.rt) (h2 : D'.bk = D.bk) (h3 : D'.ct = D.ct)
    (h4 : ∀ env M1, o = .ok (.nx env) M1 → ∀ ρ' H' σ', Rep K ρ' M1 H' → Ext ρ M H ρ' M1 H' → RE K ρ' M1 H' env σ' → FiS K ca W D ρ' M1 H' (f env M1) → D'.nx σ' H') : FiS K ca W D' ρ M H o := by
  cases o with
  | fail => exact h
  | ok g M' =>
    cases g with
    | nx env => exact fun ρ' H' σ' r y e => h4 env M' rfl ρ' H' σ' r y e (FiS.go y h)
    | brk env => exact fun ρ' H' σ' r y e => by rw [h2]; exact h ρ' H' σ' r y e
    | cnt env => exact fun ρ' H' σ' r y e => by rw [h3]; exact h ρ' H' σ' r y e
    | ret d => exact fun ρ' H' v r y e => by rw [h1]; exact h ρ' H' v r y e
    | exc env c p => exact h
end
abbrev zS (X : Cx) (ca : String → Addr) (W : WX) (C : Calls) (s : S) : TS := fun D σ H => ∃ ρ env M, Rep X.K ρ M H ∧ RE X.K ρ M H env σ ∧ FiS X.K ca W D ρ M H (evS C s env M)
abbrev zSs (X : Cx) (ca : String → Addr) (W : WX) (C : Calls) (s : Ss) : TS := fun D σ H => ∃ ρ env M, Rep X.K ρ M H ∧ RE X.K ρ M H env σ ∧ FiS X.K ca W D ρ M H (evSs C s env M)
theorem pss_imp {X : Cx} {st : List Stmt} {t u : TS} (h : PSs X st t) (i : ∀ D σ H, u D σ H → t D σ H) : PSs X st u := ⟨fun pins s σ H D I q => h.run pins s σ H D I (i _ _ _ q)⟩
section
variable {X : Cx} {ca : String → Addr} {W : WX} {C : Calls} {c : CC} {a b e : E} {pa pb pe : Expr} {pos p p1 p2 p3 p4 p5 : Pos} {t : Tg} {i : Nat} {x y : Str}
theorem zss_nil : PSs X [] (zSs X ca W C .nil) := pss_imp pss_nil fun D σ H ⟨ρ, env, M, rp, re, f⟩ => by
  dsimp only [evSs] at f
  exact f.nx rp re
theorem zss_cons {s : S} {r : Ss} {ps : Stmt} {rs : List Stmt} (h1 : PS X ps (zS X ca W C s)) (h2 : PSs X rs (zSs X ca W C r)) : PSs X (ps :: rs) (zSs X ca W C (.cons s r)) := by
  refine pss_imp (pss_cons h1 h2) fun D σ H ⟨ρ, env, M, rp, re, f⟩ => ⟨ρ, env, M, rp, re, ?_⟩
  dsimp only [evSs] at f
  exact f.next rfl rfl rfl fun env1 M1 _ ρ' H' σ' r' _ e' f' => ⟨ρ', env1, M1, r', e', f'⟩
theorem zs_ex (he : PE X pe (zE X ca W C e)) (hx : compX pe = false) : PS X (.Expr pe pos) (zS X ca W C (.ex e)) := by
  refine ps_imp (ps_expr he (swaps_plain hx)) fun D σ H ⟨ρ, env, M, rp, re, f⟩ => ⟨ρ, env, M, rp, re, ?_⟩
  dsimp only [evS] at f
  refine (f.out (R := rDD X.K) re).imp ?_
  rintro v H1 ⟨ρ1, M1, d1, _, rp1, x1, q1, f1⟩
  exact f1.nx rp1 (re.ext x1)
/-- behind a target -/
theorem asg_go {te : TE} (hte : te = zE X ca W C e) {g : TG} {P : L2.St → Prop} (hg : ∀ v σ H Q, zG X.K t v σ H Q → g v σ H Q) : ∀ D σ H, zS X ca W C (.asg t e) D σ H → tAsg te g D σ H := by
  intro D σ H ⟨ρ, env, M, rp, re, f⟩
  subst hte
  dsimp only [evS] at f
  refine ⟨ρ, env, M, rp, re, (f.out (R := rDD X.K) re).imp ?_⟩
  rintro v H1 ⟨ρ1, M1, d1, _, rp1, x1, q1, f1⟩
  cases he : asgD t d1 env with
  | none => rw [he] at f1; exact f1.elim
  | some env1 =>
    rw [he] at f1
    exact hg _ _ _ _ ⟨ρ1, env, M1, d1, env1, rp1, re.ext x1, q1, he, fun σ1 re1 _ => f1.nx rp1 re1⟩
theorem gname_z {K : PySem.W.Frag} : ∀ v σ H Q, zG K (.n i) v σ H Q → gName i v σ H Q := by
  intro v σ H Q ⟨ρ, env, M, d, env1, rp, re, q, e, k⟩
  cases e
  exact k _ (re.set i q) fun own ho => wipe_set (ho i List.mem_cons_self)
theorem zs_asg (he : PE X pe (zE X ca W C e)) (hx : compX pe = false) {tg : Expr} (hg : PG X tg (zG X.K t)) (hw : swappedStores [tg] pe X.env = pure none) (h1 : (assignEach [tg] X.env).map (·.2) = [assign tg X.env]) : PS X (.Assign [tg] pe pos) (zS X ca W C (.asg t e)) :=
  ps_imp (ps_asg he hg (swaps_plain hx) hw h1) (asg_go (P := fun _ => True) rfl fun _ _ _ _ h => h)
theorem zs_set (cc : CcOk X c) (he : PE X pe (zE X ca W C e)) (hx : swapsWith pe (some (.Name x p)) pos.line X.env = pure false) (h : nameC c i x = true) : PS X (.Assign [.Name x p] pe pos) (zS X ca W C (.asg (.n i) e)) := by
  unfold nameC at h
  rw [Bool.and_eq_true] at h
  obtain ⟨h1, h2⟩ := locC_ok cc h.2
  exact ps_imp (ps_set cc.nd (by rw [cc.N]; exact of_decide_eq_true h.1) h1 he hx h2) (asg_go (P := fun _ => True) rfl gname_z)
/-- a, b = x, y -/
theorem zs_par {e2 : E} {j : Nat} {k k2 : Nat} (cc : CcOk X c) (hc : X.calm = true) (ha : PA X [pa, pb] (zEs X ca W C (.cons a (.cons b .nil)))) (h1 : nameC c i x = true) (h2 : nameC c j y = true) (l1 : c.sc.names.lookup x = some .local) (l2 : c.sc.names.lookup y = some .local) (hij : i ≠ j)
    (hw : swappedStores [.Tuple [.Name x p1, .Name y p2] k p3] (.Tuple [pa, pb] k2 p4) X.env = pure (some [x, y])) : PS X (.Assign [.Tuple [.Name x p1, .Name y p2] k p3] (.Tuple [pa, pb] k2 p4) pos) (zS X ca W C (.asg (.t [i, j]) (.tup (.cons a (.cons b .nil))))) := by
  unfold nameC at h1 h2
  rw [Bool.and_eq_true] at h1 h2
  refine ps_imp (ps_par hc cc.nd (by rw [cc.N]; exact of_decide_eq_true h1.1) (by rw [cc.N]; exact of_decide_eq_true h2.1) hij (by rw [cc.sc]; exact l1) (by rw [cc.sc]; exact l2) ha hw rfl) fun D σ H ⟨ρ, env, M, rp, re, f⟩ => ?_
  dsimp only [evS] at f
  rw [show evE C (.tup (.cons a (.cons b .nil))) env M = (evEs C (.cons a (.cons b .nil)) env M).bind fun xs M1 => .ok (.tup xs) M1 from by rw [evE]] at f
  have f' : FiS X.K ca W D ρ M H ((evEs C (.cons a (.cons b .nil)) env M).out env fun xs M1 => match asgD (.t [i, j]) (.tup xs) env with
    | some env1 => .ok (.nx env1) M1
    | none => .fail) := by
    cases h : evEs C (.cons a (.cons b .nil)) env M <;> (rw [h] at f; exact f)
  refine ⟨ρ, env, M, rp, re, (f'.out (R := rDs X.K) re).imp ?_⟩
  rintro vs H1 ⟨ρ1, M1, d1, e1, rp1, x1, q1, f1⟩
  have hl := evEs_len e1
  match d1, hl, q1, f1 with
  | [d, d'], _, q1, f1 =>
    obtain ⟨v, w, rfl, k1, k2⟩ := q1.two
    exact ⟨v, w, rfl, f1.nx rp1 (((re.ext x1).set i k1).set j k2)⟩
theorem zs_ret (he : PE X pe (zE X ca W C e)) : PS X (.Return (some pe) pos) (zS X ca W C (.ret (.som e))) := by
  refine ps_imp (ps_ret he) fun D σ H ⟨ρ, env, M, rp, re, f⟩ => ⟨ρ, env, M, rp, re, ?_⟩
  dsimp only [evS] at f
  refine (f.out (R := rDD X.K) re).imp ?_
  rintro v H1 ⟨ρ1, M1, d1, _, rp1, x1, q1, f1⟩
  exact f1 ρ1 H1 v rp1 .refl q1
theorem zs_retN : PS X (.Return none pos) (zS X ca W C (.ret .non)) := by
  refine ps_imp ps_retN fun D σ H ⟨ρ, env, M, rp, re, f⟩ => ?_
  dsimp only [evS] at f
  exact f ρ H .non rp .refl .non
theorem zs_pass : PS X (.Pass pos) (zS X ca W C .pas) := ps_imp ps_pass fun D σ H ⟨ρ, env, M, rp, re, f⟩ => by
  dsimp only [evS] at f
  exact f.nx rp re
theorem zs_break : PS X (.Break pos) (zS X ca W C .brk) := ps_imp ps_break fun D σ H ⟨ρ, env, M, rp, re, f⟩ => by
  dsimp only [evS] at f
  exact f ρ H σ rp .refl re
theorem zs_cont : PS X (.Continue pos) (zS X ca W C .cnt) := ps_imp ps_continue fun D σ H ⟨ρ, env, M, rp, re, f⟩ => by
  dsimp only [evS] at f
  exact f ρ H σ rp .refl re
theorem zs_nvr {st : Stmt} : PS X st (zS X ca W C .nvr) := ps_imp ps_never fun D σ H ⟨ρ, env, M, rp, re, f⟩ => by
  dsimp only [evS] at f
  exact f.elim
theorem zs_if {s1 s2 : Ss} {b1 b2 : List Stmt} (hc : PT X pe (zT X ca W C e)) (h1 : PSs X b1 (zSs X ca W C s1)) (h2 : PSs X b2 (zSs X ca W C s2)) : PS X (.If pe b1 b2 pos) (zS X ca W C (.iff e s1 s2)) := by
  refine ps_imp (ps_if hc h1 h2) fun D σ H ⟨ρ, env, M, rp, re, f⟩ => ⟨ρ, env, M, rp, re, ?_⟩
  dsimp only [evS] at f
  have f' : FiS X.K ca W D ρ M H (((evE C e env M).bind fun x M1 => ofO (asB x) M1).out env fun k M1 => if k then evSs C s1 env M1 else evSs C s2 env M1) := by
    cases h : evE C e env M with
    | ok d M1 =>
      rw [h] at f
      cases d <;> first | exact f.elim | skip
      rename_i k
      cases k <;> exact f
    | exc _ _ _ => rw [h] at f; exact f
    | fail => rw [h] at f; exact f
  refine (f'.out (R := rId) re).imp ?_
  rintro k H1 ⟨ρ1, M1, k', _, rp1, x1, q1, f1⟩
  cases q1
  cases k with
  | true => rw [if_pos rfl] at f1 ⊢; exact ⟨ρ1, env, M1, rp1, re.ext x1, f1⟩
  | false => rw [if_neg (by decide)] at f1 ⊢; exact ⟨ρ1, env, M1, rp1, re.ext x1, f1⟩
theorem whl_ok {cnd : En → Sto → Res Z.D} {bd : En → Sto → Out} {env : En} {M : Sto} (h : whlGo cnd bd env M ≠ .fail) : ∃ n, whlGo cnd bd env M = whlN cnd bd n env M := by
  unfold whlGo at h ⊢
  split at h
  · rename_i hh
    rw [dif_pos hh]
    exact ⟨_, rfl⟩
  · exact absurd rfl h
theorem zs_while {bs : Ss} {pb : List Stmt} (hp : PassesOwn (model X.prog X.w) X.A X.env X.xe) (hc : PT X pe (zT X ca W C e)) (hb : PSs X pb (zSs X ca W C bs)) : PS X (.While pe pb [] pos) (zS X ca W C (.whl e bs)) := by
  refine ps_imp (ps_while hp hc hb) fun D σ H ⟨ρ, env, M, rp, re, f⟩ => ?_
  dsimp only [evS] at f
  obtain ⟨n, hn⟩ := whl_ok (cnd := fun env M => evE C e env M) (bd := fun env M => evSs C bs env M) (env := env) (M := M) (fun z => by rw [z] at f; exact f.elim)
  rw [hn] at f
  refine ⟨fun m σ H => ∃ ρ env M, Rep X.K ρ M H ∧ RE X.K ρ M H env σ ∧ FiS X.K ca W D ρ M H (whlN (fun env M => evE C e env M) (fun env M => evSs C bs env M) m env M), ⟨n, ρ, env, M, rp, re, f⟩, ?_⟩
  rintro m σ H ⟨ρ, env, M, rp, re, f⟩
  cases m with
  | zero => exact f.elim
  | succ m =>
    dsimp only [whlN] at f
    have f' : FiS X.K ca W D ρ M H (((evE C e env M).bind fun x M1 => ofO (asB x) M1).out env fun k M1 => if k then (match evSs C bs env M1 with
          | .ok (.nx env2) M2 => whlN (fun env M => evE C e env M) (fun env M => evSs C bs env M) m env2 M2
          | .ok (.cnt env2) M2 => whlN (fun env M => evE C e env M) (fun env M => evSs C bs env M) m env2 M2
          | .ok (.brk env2) M2 => .ok (.nx env2) M2
          | o => o) else .ok (.nx env) M1) := by
      cases h : evE C e env M with
      | ok d M1 =>
        rw [h] at f
        cases d <;> first | exact f.elim | skip
        rename_i k
        cases k <;> exact f
      | exc _ _ _ => rw [h] at f; exact f
      | fail => rw [h] at f; exact f
    refine ⟨ρ, env, M, rp, re, (f'.out (R := rId) re).imp ?_⟩
    rintro k H1 ⟨ρ1, M1, k', _, rp1, x1, q1, f1⟩
    cases q1
    cases k with
    | false => rw [if_neg (by decide)] at f1 ⊢; exact f1.nx rp1 (re.ext x1)
    | true =>
      rw [if_pos rfl] at f1 ⊢
      refine ⟨fun σ H => ∃ ρ env M, Rep X.K ρ M H ∧ RE X.K ρ M H env σ ∧ FiS X.K ca W D ρ M H (whlN (fun env M => evE C e env M) (fun env M => evSs C bs env M) m env M), fun σ' H' h => ⟨m, Nat.lt_succ_self m, h⟩, ρ1, env, M1, rp1, re.ext x1, ?_⟩
      cases ho : evSs C bs env M1 with
      | fail => rw [ho] at f1; exact f1.elim
      | ok g M2 =>
        rw [ho] at f1
        cases g with
        | nx env2 => exact fun ρ' H' σ' r' y' e' => ⟨ρ', env2, M2, r', e', f1.go y'⟩
        | cnt env2 => exact fun ρ' H' σ' r' y' e' => ⟨ρ', env2, M2, r', e', f1.go y'⟩
        | brk env2 => exact f1
        | ret d => exact f1
        | exc env2 c2 p2 => exact f1
theorem zs_for {it : Z.It} {tg iter : Expr} {bs : Ss} {pb : List Stmt} (hp : PassesOwn (model X.prog X.w) X.A X.env X.xe) (hc : X.calm = true) (hi : PI X tg iter (zI X ca W C it)) (hg : PG X tg (zG X.K t)) (hb : PSs X pb (zSs X ca W C bs)) (hx : plainX iter = true) : PS X (.For tg iter pb [] pos) (zS X ca W C (.for_ t it bs)) := by
  refine ps_imp (ps_for hp hc hi hg hb (fold_plain hx)) fun D σ H ⟨ρ, env, M, rp, re, f⟩ => ⟨ρ, env, M, rp, re, ?_⟩
  dsimp only [evS] at f
  refine (f.out (R := rIt X.K) re).imp ?_
  rintro J H1 ⟨ρ1, M1, items, _, rp1, x1, ⟨hz, G, Y, w, st⟩, f1⟩
  refine for_it w (Pv := fun i σ H => ∃ ρ2 env2 M2, Rep X.K ρ2 M2 H ∧ RE X.K ρ2 M2 H env2 σ ∧ Ext ρ1 M1 H1 ρ2 M2 H ∧ FiS X.K ca W D ρ2 M2 H (forGo t (fun env M => evSs C bs env M) (items.drop i) env2 M2)) ?_ ?_ ?_ ?_
  · exact ⟨ρ1, env, M1, rp1, re.ext x1, .refl, by rw [List.drop_zero]; exact f1⟩
  · rintro i σ H hi ⟨ρ2, env2, M2, rp2, re2, x2, f2⟩
    exact (st M1 ρ2 M2 H rfl x2.wk rp2).1
  · rintro i v σ H H' hi ⟨ρ2, env2, M2, rp2, re2, x2, f2⟩ y
    obtain ⟨rp3, x3, qx⟩ := (st M1 ρ2 M2 H rfl x2.wk rp2).2 i items[i] v H' (List.getElem?_eq_getElem hi) y
    rw [List.drop_eq_getElem_cons hi] at f2
    unfold forGo at f2
    split at f2
    · exact f2.elim
    rename_i env3 he
    refine ⟨ρ2, env2, M2, items[i], env3, rp3, re2.ext x3, qx, he, fun σ1 re1 _ => ⟨ρ2, env3, M2, rp3, re1, ?_⟩⟩
    have f3 := f2.go x3
    cases ho : evSs C bs env3 M2 with
    | fail => rw [ho] at f3; exact f3.elim
    | ok g M3 =>
      rw [ho] at f3
      cases g with
      | nx env4 => exact fun ρ' H' σ' r' y' e' => ⟨ρ', env4, M3, r', e', (x2.trans x3).trans y', f3.go y'⟩
      | cnt env4 => exact fun ρ' H' σ' r' y' e' => ⟨ρ', env4, M3, r', e', (x2.trans x3).trans y', f3.go y'⟩
      | brk env4 => exact f3
      | ret d => exact f3
      | exc env4 c4 p4 => exact f3
  · rintro σ H ⟨ρ2, env2, M2, rp2, re2, x2, f2⟩
    rw [List.drop_length] at f2
    unfold forGo at f2
    exact f2.nx rp2 re2
theorem zs_aug {op : Bop} (cc : CcOk X c) (h : nameC c i x = true) (ho : op = .add ∨ op = .sub) (he : PE X pe (zE X ca W C e)) : PS X (.AugAssign (.Name x p) (bopOf op) pe pos) (zS X ca W C (.aug i op e)) := by
  unfold nameC at h
  rw [Bool.and_eq_true] at h
  obtain ⟨h1, h2⟩ := locC_ok cc h.2
  have main : ∀ D σ H, zS X ca W C (.aug i op e) D σ H → tAug i (zE X ca W C e) (fun x y H Q => ∃ p q, x = .int p ∧ y = .int q ∧ Q (.int (match op with | .add => p + q | _ => p - q)) H) D σ H := by
    intro D σ H ⟨ρ, env, M, rp, re, f⟩
    dsimp only [evS] at f
    split at f
    · rename_i d hd
      obtain ⟨v, k1, k2⟩ := re.at_ _ _ hd
      refine ⟨v, k1, ρ, env, M, rp, re, (f.out (R := rDD X.K) re).imp ?_⟩
      rintro w H1 ⟨ρ1, M1, d1, _, rp1, x1, q1, f1⟩
      split at f1
      · rename_i pp qq _
        rw [k2.int_inv, q1.int_inv]
        refine ⟨pp, qq, rfl, rfl, ?_⟩
        rcases ho with rfl | rfl
        · exact f1.nx rp1 ((re.ext x1).set i (.int _))
        · exact f1.nx rp1 ((re.ext x1).set i (.int _))
      · exact f1.elim
    · exact f.elim
  have hN : X.N[i]? = some x := by rw [cc.N]; exact of_decide_eq_true h.1
  rcases ho with rfl | rfl
  · exact ps_imp (ps_aug cc.nd hN h1 he ip_add h2) main
  · exact ps_imp (ps_aug cc.nd hN h1 he ip_sub h2) main
end
end Z


/-! Zs: raise and try as statements. -/
namespace Z
open PySem L2 PySem.Spec PyProof.Rows
section
variable {X : Cx} {ca : String → Addr} {W : WX} {C : Calls} {e : E} {pe : Expr} {x : Str} {p p1 pos : Pos} {c : String}
theorem zs_rais (hc : X.calm = true) (tk : Takes X W) (T : XcK X.prog X.K (ca c)) (hsu : X.mg "super" = none) (hr : Room 2 X.A) (hg : Gl X x) (hm : X.mg x = some (.ref (ca c))) (hdb : (x == ("__debug__" : Str)) = false) (hp : plainX pe = true) (he : PE X pe (zE X ca W C e)) :
    PS X (.Raise (some (.Call (.Name x p) [pe] [] p1)) none pos) (zS X ca W C (.rais c (.cons e .nil))) := by
  refine ps_imp (ps_raise hc tk (z_mk T hsu hr hg hm hdb hp he)) fun D σ H ⟨ρ, env, M, rp, re, f⟩ => ⟨ρ, env, M, rp, re, ?_⟩
  dsimp only [evS] at f
  have f' : FiS X.K ca W D ρ M H ((evEs C (.cons e .nil) env M).out env fun xs M1 => match xs with
      | [] => .ok (.exc env c none) M1
      | [d] => .ok (.exc env c (some d)) M1
      | _ => .fail) := f
  refine (f'.out (R := rDs X.K) re).imp ?_
  rintro vs H1 ⟨ρ1, M1, ds, e1, rp1, x1, q1, f1⟩
  have hl := evEs_len e1
  match ds, hl, q1, f1 with
  | [d], _, q1, f1 =>
    obtain ⟨v, rfl, qv⟩ := RDs.one q1
    refine ⟨by show 1 ≤ 1000; omega, fun a ha => ⟨a, v, rfl, upd_same, fun dx hdx hne => ?_⟩⟩
    rw [upd_ne hne] at hdx
    refine ⟨rfl, dx, [(("at" : Str), v)], by rw [upd_same], by rw [upd_ne hne, upd_same], hdx, ?_⟩
    rw [upd_exc ha hne]
    obtain ⟨rp2, x2⟩ := rp1.val (o := .xd [(("at" : Str), v)]) hdx
    exact f1 ρ1 _ σ (.ref (ca c)) (some dx) rp2 x2 ((re.ext x1).ext x2) ⟨rfl, dx, v, rfl, rp1.noal hdx, upd_same, RD.ext x2 qv⟩
theorem zs_tr {b : Ss} {pb : List Stmt} {h0 : ExceptHandler} {hl : List ExceptHandler} {hs : List (String × Str)} {i : Nat} {w : Str} {cs : List String} (hst : X.stack = X.env :: X.outer) (hf : X.env.frame = some X.env.locals) (hN : X.N.Nodup) (hi : X.N[i]? = some w) (lw : locS X.env.scope w = true) (tk : Takes X W)
    (Er : ErrOk X.prog X.K X.mg ca cs) (hsub : ∀ h ∈ hs, h.1 ∈ cs) (hc : hdC X.env.scope w hs (h0 :: hl) = true) (hb : ∀ (W : WX) (pn : List (Addr × Obj)) (xe : Value → Shared → Prop), Takes (X.tr pn xe) W → PassesOwn (model X.prog X.w) X.A X.env xe → PSs (X.tr pn xe) pb (zSs (X.tr pn xe) ca W C b)) :
    PS X (.Try pb (h0 :: hl) [] [] pos) (zS X ca W C (.tr b i hs)) := by
  unfold locS at lw
  simp only [Bool.and_eq_true, decide_eq_true_eq, Bool.not_eq_true'] at lw
  refine ps_imp (try_all (i := i) (n := w) (tb := fun W => zSs X ca W C b) hst hf hN hi lw.1.1 tk hb (hds_ok (i := i) hi lw.1.1 lw.1.2 lw.2 (fun h hh => Er.ex h.1 (hsub h hh)) hc)) fun D σ H ⟨ρ, env, M, rp, re, f⟩ => ⟨ρ, env, M, rp, re, ?_⟩
  dsimp only [evS] at f
  cases ho : evSs C b env M with
  | fail => rw [ho] at f; exact f.elim
  | ok fl M1 =>
    rw [ho] at f
    cases fl with
    | nx e => exact f
    | brk e => exact f
    | cnt e => exact f
    | ret d => exact f
    | exc e c pd =>
      cases pd with
      | none => exact f.elim
      | some d =>
        dsimp only [hearS] at f
        cases ht : HF.tag hs c with
        | none => rw [ht] at f; exact f.elim
        | some t =>
          rw [ht] at f
          intro ρ' H' σ' cv dd rp' x' _ ⟨ecv, a', v, ed, na, ha, qv⟩
          subst ecv ed
          obtain ⟨q, hq, e1⟩ := List.mem_map.mp (tag_mem ht)
          refine wAll_go (X := X) ha (fun p o ho hp => ?_) (fun h hh => Er.exm c (by rw [← e1]; exact hsub q hq) h.1 (hsub h hh)) ht
          obtain ⟨r1, y1, q1⟩ := rp'.newT hp ho (by rw [sizeLine_eq]; show 2 ≤ _; omega) (.cons (.str t) (.cons qv .nil))
          exact f ρ' _ _ r1 (x'.trans y1) q1
end
end Z


/-! Z17: the checker of statements. -/
namespace Z
open PySem L2 PySem.Spec PyProof.Rows

section
variable {X : Cx} {ca : String → Addr} {W : WX} {C : Calls} {c : CC} {a b e : E} {pa pb pe : Expr} {pos p p1 p2 p3 p4 p5 : Pos} {t : Tg} {i : Nat} {x y : Str}
theorem PSet.or {u v : TSet} (h : PSet X u) (h' : PSet X v) : PSet X (fun o i x H Q => u o i x H Q ∨ v o i x H Q) := by
  intro pins s σ H o i v ov iv u' Q I ro ri rv q
  rcases q with q | q
  · exact h pins s σ H o i v ov iv u' Q I ro ri rv q
  · exact h' pins s σ H o i v ov iv u' Q I ro ri rv q
theorem zs_asgIx (hu : X.A.units + 1 < cLine) (he : PE X pe (zE X ca W C e)) (ha : PE X pa (zE X ca W C a)) (hb : PE X pb (zE X ca W C b)) (hx : compX pe = false) (hp : plainX pb = true) : PS X (.Assign [.Subscript pa pb p] pe pos) (zS X ca W C (.asgIx a b e)) := by
  have hs : ∀ v, assign (.Subscript pa pb p) X.env v = (do
      let ov ← holding [v] (eval pa X.env)
      let iv ← holding [v, ov] (eval pb X.env)
      standAt p
      holding [v, ov, iv] (setItem ov iv v)
      release [v, ov, iv] []) := by
    intro v
    cases pb <;> first | rfl | cases hp
  refine ps_imp (ps_asg he (pg_sub ha hb (PSet.or set_list (set_dict hu)) hs) (by unfold swapsWithSole; exact swaps_plain hx) (by rfl) (by rfl)) fun D σ H ⟨ρ, env, M, rp, re, f⟩ => ⟨ρ, env, M, rp, re, ?_⟩
  dsimp only [evS] at f
  refine (f.out (R := rDD X.K) re).imp ?_
  rintro v H1 ⟨ρ1, M1, dv, -, rp1, x1, q1, f1⟩
  refine ⟨ρ1, env, M1, rp1, re.ext x1, (f1.out (R := rDD X.K) (re.ext x1)).imp ?_⟩
  rintro o H2 ⟨ρ2, M2, d2, -, rp2, x2, q2, f2⟩
  refine ⟨ρ2, env, M2, rp2, (re.ext x1).ext x2, (f2.out (R := rDD X.K) ((re.ext x1).ext x2)).imp ?_⟩
  rintro k H3 ⟨ρ3, M3, d3, -, rp3, x3, q3, f3⟩
  have re3 := ((re.ext x1).ext x2).ext x3
  have qv := RD.ext x3 (RD.ext x2 q1)
  have qo := RD.ext x3 q2
  unfold setIx at f3
  split at f3
  · rename_i n
    obtain ⟨l, rfl, hl⟩ := qo.loc_inv
    split at f3
    · rename_i xs k' hm
      obtain ⟨ws, g1, g2, g3⟩ := rp3.lst_at hm hl
      by_cases hk : 0 ≤ k' ∧ k' < xs.length
      · rw [if_pos (decide_eq_true hk)] at f3
        have hlen := g3.length
        refine .inl ⟨l, ws, k', k'.toNat, rfl, q3.int_inv, g1, by unfold ixN; rw [if_pos hk.1, if_pos (by omega)], ?_⟩
        obtain ⟨r4, x4⟩ := rp3.putL (ys := xs.set k'.toNat dv) (vs := ws.set k'.toNat v) hm hl (by rw [List.length_set]; exact g2) (g3.set _ qv)
        exact f3 _ _ _ r4 x4 (re3.ext x4)
      · rw [if_neg (by simpa using hk)] at f3; exact f3.elim
    · rename_i kvs z hm
      obtain ⟨ws, g1, g2, g3⟩ := rp3.dct_at hm hl
      by_cases hk : fitLen kvs.length = true
      · rw [if_pos hk] at f3
        have hlen := g3.length
        have hz : (putK ws (Sum.inr z) v).length ≤ sizeLine := by
          have h1 := (RKs.put (k := Sum.inr z) g3 qv).length
          rw [← h1]
          unfold putD
          split
          · rw [List.length_map]; exact sz_of hk
          · rw [List.length_append]; exact sz_lt hk
        refine .inr ⟨l, _, rfl, .inl ⟨ws, Sum.inr z, g1, q3.str_inv, by rw [← hlen]; exact sz_lt hk, rfl⟩, ?_⟩
        obtain ⟨r4, x4⟩ := rp3.putD (ys := putD (Sum.inr z) dv kvs) (vs := putK ws (Sum.inr z) v) hm hl hz (g3.put qv)
        exact f3 _ _ _ r4 x4 (re3.ext x4)
      · rw [if_neg hk] at f3; exact f3.elim
    · rename_i kvs z hm
      obtain ⟨ws, g1, g2, g3⟩ := rp3.dct_at hm hl
      by_cases hk : fitLen kvs.length = true
      · rw [if_pos hk] at f3
        have hlen := g3.length
        have hz : (putK ws (Sum.inl z) v).length ≤ sizeLine := by
          have h1 := (RKs.put (k := Sum.inl z) g3 qv).length
          rw [← h1]
          unfold putD
          split
          · rw [List.length_map]; exact sz_of hk
          · rw [List.length_append]; exact sz_lt hk
        refine .inr ⟨l, _, rfl, .inl ⟨ws, Sum.inl z, g1, q3.int_inv, by rw [← hlen]; exact sz_lt hk, rfl⟩, ?_⟩
        obtain ⟨r4, x4⟩ := rp3.putD (ys := putD (Sum.inl z) dv kvs) (vs := putK ws (Sum.inl z) v) hm hl hz (g3.put qv)
        exact f3 _ _ _ r4 x4 (re3.ext x4)
      · rw [if_neg hk] at f3; exact f3.elim
    · exact f3.elim
  · exact f3.elim
/-- name = [.. for ..] -/
theorem zs_setLc {m : Bool} {el : E} {it : Z.It} {cd : Oe} {own : List Nat} {ownL : List (Str × Nat)} {elt tg iter : Expr} {ifs : List Expr} {scope : Scope} (cc : CcOk X c) (hc : X.calm = true) (hi : PI X tg iter (zI X ca W C it))
    (ok : BlkOk X.N X.env.scope scope ownL) (ho : ownL.map (·.2) = own) (hsl : ∀ i ∈ t.slots, i ∈ own) (hp : plainX iter = true)
    (hg : ∀ (s : Shared) (H : Hp) (D : Addr) (cl : List (Str × Addr)) (fp : List Addr), PG (X.blk s H scope (compEnvC scope cl D X.env) fp) tg (zG X.K t))
    (ht : ∀ (s : Shared) (H : Hp) (D : Addr) (cl : List (Str × Addr)) (fp : List Addr), PTs (X.blk s H scope (compEnvC scope cl D X.env) fp) ifs (zC X ca W0 C cd))
    (he : ∀ (s : Shared) (H : Hp) (D : Addr) (cl : List (Str × Addr)) (fp : List Addr), PE (X.blk s H scope (compEnvC scope cl D X.env) fp) elt (zE X ca W0 C el))
    (hy : nameC c i y = true) (hyl : c.sc.names.lookup y = some .local) (hk : c.sc.kind = .function) (hl : (p.line == p2.line) = true) (hn : (scope.names.any fun (n, k) => n == y && (k == .local || k == .cell)) = false) :
    PS X (.Assign [.Name y p] (.ListComp elt [⟨tg, iter, ifs, 0⟩] scope p2) pos) (zS X ca W C (.asg (.n i) (.comp m el t it cd own))) := by
  unfold nameC at hy
  rw [Bool.and_eq_true] at hy
  subst ho
  have hyl' : X.env.scope.names.lookup y = some .local := by rw [cc.sc]; exact hyl
  refine ps_imp (ps_setLc hc cc.nd (by rw [cc.N]; exact of_decide_eq_true hy.1) hyl' (sw_true (by rw [cc.sc]; exact hk) hyl' hl hn) hi ok hg ht he (fold_plain hp)) ?_
  have key : ∀ σ H Q, zE X ca W C (.comp m el t it cd (ownL.map (·.2))) σ H Q → tLc (zI X ca W C it) (zG X.K t) (zC X ca W0 C cd) (zE X ca W0 C el) (ownL.map (·.2)) σ H Q := comp_core hsl
  intro D σ H h
  have h2 := asg_go (g := gName i) (P := fun _ => True) (te := zE X ca W C (.comp m el t it cd (ownL.map (·.2)))) rfl gname_z D σ H h
  exact key _ _ _ h2
theorem sw_none {ts : List Expr} {k : Nat} {env : Env} (h : (match pe with | .Tuple .. => false | _ => true) = true) : swappedStores [.Tuple ts k p] pe env = pure none := by
  cases pe <;> first | rfl | cases h
theorem sw_some2 {k k2 : Nat} {env : Env} (hk : env.scope.kind = .function) (hx : env.scope.names.lookup x = some .local) (hy : env.scope.names.lookup y = some .local) (hl : p2.line = p1.line) (hn : x ≠ y) (ha : plainX pa = true) (hb : plainX pb = true)
    (hf : ([pa, pb].all (foldedForSure 8)) = false) (hc : ([pa, pb].all (constantsAlone 8)) = false) : swappedStores [.Tuple [.Name x p1, .Name y p2] k p3] (.Tuple [pa, pb] k2 p4) env = pure (some [x, y]) := by
  have h1 : env.blockKind = .function := by unfold Env.blockKind; rw [hk]; rfl
  have h3 : (List.eraseDupsBy (fun x1 x2 => x1 == x2) [x, y]).length = 2 := by
    have hb : (y == x) = false := by simp [Ne.symm hn]
    simp [List.eraseDupsBy, List.eraseDupsBy.loop, hb]
  have kx : env.kindOf x = some .local := hx
  have ky : env.kindOf y = some .local := hy
  have e1 : (Expr.Name x p1).pos = p1 := rfl
  unfold swappedStores
  simp [h1, kx, ky, hl, hf, hc, e1, List.eraseDups, hn, hn.symm, Expr.pos]
  rw [if_neg ?_, if_pos h3]
  rintro (h | h)
  · cases pa <;> first | (cases h; done) | (cases ha; done)
  · cases pb <;> first | (cases h; done) | (cases hb; done)
end
end Z


/-! Z18: the checker of statements, and that it is right. -/
namespace Z
open PySem L2 PySem.Spec PyProof.Rows

section
variable {X : Cx} {ca : String → Addr} {W : WX} {C : Calls} {c : CC} {a b d e : E} {pa pb pd pe : Expr} {pos p p1 p2 p3 p4 p5 : Pos} {t : Tg} {i j l : Nat} {x y z : Str}
theorem zs_par3 {k k2 : Nat} (cc : CcOk X c) (hc : X.calm = true) (ha : PA X [pa, pb, pd] (zEs X ca W C (.cons a (.cons b (.cons d .nil))))) (h1 : nameC c i x = true) (h2 : nameC c j y = true) (h3 : nameC c l z = true)
    (l1 : c.sc.names.lookup x = some .local) (l2 : c.sc.names.lookup y = some .local) (l3 : c.sc.names.lookup z = some .local) (hij : i ≠ j) (hil : i ≠ l) (hjl : j ≠ l)
    (hw : swappedStores [.Tuple [.Name x p1, .Name y p2, .Name z p3] k p4] (.Tuple [pa, pb, pd] k2 p5) X.env = pure (some [x, y, z])) :
    PS X (.Assign [.Tuple [.Name x p1, .Name y p2, .Name z p3] k p4] (.Tuple [pa, pb, pd] k2 p5) pos) (zS X ca W C (.asg (.t [i, j, l]) (.tup (.cons a (.cons b (.cons d .nil)))))) := by
  unfold nameC at h1 h2 h3
  rw [Bool.and_eq_true] at h1 h2 h3
  refine ps_imp (ps_par3 hc cc.nd (by rw [cc.N]; exact of_decide_eq_true h1.1) (by rw [cc.N]; exact of_decide_eq_true h2.1) (by rw [cc.N]; exact of_decide_eq_true h3.1) hij hil hjl (by rw [cc.sc]; exact l1) (by rw [cc.sc]; exact l2) (by rw [cc.sc]; exact l3) ha hw rfl) fun D σ H ⟨ρ, env, M, rp, re, f⟩ => ?_
  dsimp only [evS] at f
  rw [show evE C (.tup (.cons a (.cons b (.cons d .nil)))) env M = (evEs C (.cons a (.cons b (.cons d .nil))) env M).bind fun xs M1 => .ok (.tup xs) M1 from by rw [evE]] at f
  have f' : FiS X.K ca W D ρ M H ((evEs C (.cons a (.cons b (.cons d .nil))) env M).out env fun xs M1 => match asgD (.t [i, j, l]) (.tup xs) env with
    | some env1 => .ok (.nx env1) M1
    | none => .fail) := by
    cases h : evEs C (.cons a (.cons b (.cons d .nil))) env M <;> (rw [h] at f; exact f)
  refine ⟨ρ, env, M, rp, re, (f'.out (R := rDs X.K) re).imp ?_⟩
  rintro vs H1 ⟨ρ1, M1, d1, e1, rp1, x1, q1, f1⟩
  have hl := evEs_len e1
  match d1, hl, q1, f1 with
  | [d, d', d''], _, .cons (v := u) k1 q1, f1 =>
    obtain ⟨v, w, rfl, k2, k3⟩ := q1.two
    exact ⟨u, v, w, rfl, f1.nx rp1 ((((re.ext x1).set i k1).set j k2).set l k3)⟩
theorem sw_some3 {k k2 : Nat} {env : Env} (hk : env.scope.kind = .function) (hx : env.scope.names.lookup x = some .local) (hy : env.scope.names.lookup y = some .local) (hz : env.scope.names.lookup z = some .local) (hl : p2.line = p1.line) (hl2 : p3.line = p1.line) (hn : x ≠ y) (hn2 : x ≠ z) (hn3 : y ≠ z) (ha : plainX pa = true) (hb : plainX pb = true) (hd : plainX pd = true)
    (hf : ([pa, pb, pd].all (foldedForSure 8)) = false) (hc : ([pa, pb, pd].all (constantsAlone 8)) = false) : swappedStores [.Tuple [.Name x p1, .Name y p2, .Name z p3] k p4] (.Tuple [pa, pb, pd] k2 p5) env = pure (some [x, y, z]) := by
  have h1 : env.blockKind = .function := by unfold Env.blockKind; rw [hk]; rfl
  have h3 : (List.eraseDupsBy (fun x1 x2 => x1 == x2) [x, y, z]).length = 3 := by
    have hb : (y == x) = false := by simp [Ne.symm hn]
    have hb2 : (z == x) = false := by simp [Ne.symm hn2]
    have hb3 : (z == y) = false := by simp [Ne.symm hn3]
    simp [List.eraseDupsBy, List.eraseDupsBy.loop, hb, hb2, hb3]
  have kx : env.kindOf x = some .local := hx
  have ky : env.kindOf y = some .local := hy
  have kz : env.kindOf z = some .local := hz
  have e1 : (Expr.Name x p1).pos = p1 := rfl
  unfold swappedStores
  simp [h1, kx, ky, kz, hl, hl2, hf, hc, e1, List.eraseDups, Expr.pos]
  rw [if_neg ?_, if_pos h3]
  rintro (h | h | h)
  · cases pa <;> first | (cases h; done) | (cases ha; done)
  · cases pb <;> first | (cases h; done) | (cases hb; done)
  · cases pd <;> first | (cases h; done) | (cases hd; done)
end
def isFn (c : CC) : Bool := match c.sc.kind with
  | .function => true
  | _ => false
def isLoc (c : CC) (x : Str) : Bool := decide (c.sc.names.lookup x = some .local)
/-- how a value goes to its target -/
def asgC (c : CC) (t : Tg) (tg pe : Expr) : Bool := match tg, pe with
  | .Name y p, .ListComp _ _ scope p2 => isLoc c y && isFn c && (p.line == p2.line) && !(scope.names.any fun (n, k) => n == y && (k == .local || k == .cell))
  | .Tuple [.Name x p1, .Name y p2] _ _, .Tuple [pa, pb] _ _ => (match t with
    | .t [i, j] => isFn c && isLoc c x && isLoc c y && decide (p2.line = p1.line) && decide (x ≠ y) && decide (i ≠ j) && plainX pa && plainX pb && !([pa, pb].all (foldedForSure 8)) && !([pa, pb].all (constantsAlone 8))
    | _ => false)
  | .Tuple [.Name x p1, .Name y p2, .Name z p3] _ _, .Tuple [pa, pb, pd] _ _ => (match t with
    | .t [i, j, l] => isFn c && isLoc c x && isLoc c y && isLoc c z && decide (p2.line = p1.line) && decide (p3.line = p1.line) && decide (x ≠ y) && decide (x ≠ z) && decide (y ≠ z) && decide (i ≠ j) && decide (i ≠ l) && decide (j ≠ l) && plainX pa && plainX pb && plainX pd && !([pa, pb, pd].all (foldedForSure 8)) && !([pa, pb, pd].all (constantsAlone 8))
    | _ => false)
  | .Name _ _, pe => !compX pe
  | .Tuple _ _ _, pe => !compX pe && (match pe with
    | .Tuple _ _ _ => false
    | _ => true)
  | _, _ => false
def asgF : Expr → Expr → Bool
  | .Tuple _ _ _, .Tuple vs _ _ => vs.all (foldedForSure 8)
  | _, _ => false
theorem sw_fold {ts vs : List Expr} {k k2 : Nat} {p p2 : Pos} {env : Env} (h : vs.all (foldedForSure 8) = true) : swappedStores [.Tuple ts k p] (.Tuple vs k2 p2) env = pure none := by
  unfold swappedStores
  simp only [h, if_true]
  repeat' split
  all_goals rfl
/-- a name among them that lambdas share -/
def asgL (c : CC) : Expr → Expr → Bool
  | .Tuple ts _ _, .Tuple _ _ _ => ts.any fun t => match t with
    | .Name x _ => !isLoc c x
    | _ => false
  | _, _ => false
theorem fm_less {α β : Type} {f : α → Option β} : ∀ {l : List α} {a : α}, a ∈ l → f a = none → (l.filterMap f).length < l.length
  | [], _, h, _ => by cases h
  | b :: r, a, h, e => by
    rcases List.mem_cons.mp h with rfl | h
    · rw [List.filterMap_cons, e]
      exact Nat.lt_succ_of_le (List.length_filterMap_le f r)
    · have ih := fm_less h e
      rw [List.filterMap_cons]
      split
      · exact Nat.lt_succ_of_lt ih
      · rw [List.length_cons, List.length_cons]; omega
theorem sw_cell {ts vs : List Expr} {k k2 : Nat} {p p2 : Pos} {env : Env} {c : CC} (hc : env.scope = c.sc) (h : asgL c (.Tuple ts k p) (.Tuple vs k2 p2) = true) : swappedStores [.Tuple ts k p] (.Tuple vs k2 p2) env = pure none := by
  unfold asgL at h
  rw [List.any_eq_true] at h
  obtain ⟨t, ht, h⟩ := h
  cases t <;> try (cases h; done)
  rename_i x px
  have hx : env.kindOf x ≠ some .local := by
    show env.scope.names.lookup x ≠ _
    rw [hc]
    unfold isLoc at h
    simpa using h
  have hlen := fm_less (f := fun e => match e with
    | .Name id pos => if env.kindOf id == some .local && pos.line == ((ts.head?.map (·.pos.line)).getD 0) then some id else none
    | _ => none) ht (by
      show (if env.kindOf x == some .local && _ then some x else none) = none
      rw [if_neg]
      intro e
      rw [Bool.and_eq_true, beq_iff_eq] at e
      exact hx e.1)
  unfold swappedStores
  dsimp only
  repeat' split
  all_goals first
    | rfl
    | skip
  all_goals (
    rename_i h4 _ _
    exfalso
    apply h4
    rw [Bool.or_eq_true]
    left
    rw [bne_iff_ne]
    intro e
    exact Nat.ne_of_lt hlen e)
def notNvr : E → Bool
  | .nvr => false
  | .comp2 .. => false
  | .frz _ => false
  | _ => true
mutual
def chkS (mo : Mo) (c : CC) : S → Stmt → Bool
  | .nvr, _ => true
  | .ex e, st => (match st with
    | .Expr pe _ => !compX pe && chkE mo c e pe
    | _ => false)
  | .asg t e, st => (match st with
    | .Assign [tg] pe _ => notNvr e && (asgC c t tg pe || asgF tg pe || asgL c tg pe) && tgC c t tg && chkE mo c e pe
    | _ => false)
  | .asgIx a i e, st => (match st with
    | .Assign [.Subscript pa pb _] pe _ => !compX pe && plainX pb && chkE mo c a pa && chkE mo c i pb && chkE mo c e pe
    | _ => false)
  | .aug i op e, st => (match st with
    | .AugAssign (.Name x _) o pe _ => decide (op = .add ∨ op = .sub) && decide (o = bopOf op) && nameC c i x && chkE mo c e pe
    | _ => false)
  | .ret o, st => (match st with
    | .Return p _ => chkO mo c o p
    | _ => false)
  | .iff e s1 s2, st => (match st with
    | .If pe b1 b2 _ => tstE e && chkE mo c e pe && chkSs mo c s1 b1 && chkSs mo c s2 b2
    | _ => false)
  | .whl e s1, st => (match st with
    | .While pe b1 [] _ => tstE e && chkE mo c e pe && chkSs mo c s1 b1
    | _ => false)
  | .for_ t it s1, st => (match st with
    | .For tg iter b1 [] _ => plainX iter && tgC c t tg && chkIt mo c it tg iter && chkSs mo c s1 b1
    | _ => false)
  | .rais ec es, st => (match st with
    | .Raise (some (.Call (.Name x _) [pe] [] _)) none _ => decide (x = Str.ofString ec) && glC c x && decide (ec ∈ mo.ex) && plainX pe && (match es with
      | .cons e .nil => chkE mo c e pe
      | _ => false)
    | _ => false)
  | .tr b i hs, st => (match st with
    | .Try pb (.ExceptHandler t (some w) s p :: hl) [] [] _ => decide (c.N[i]? = some w) && locS c.sc w && (hs.all fun h => decide (h.1 ∈ mo.ex)) && hdC c.sc w hs (.ExceptHandler t (some w) s p :: hl) && chkSs mo c b pb
    | _ => false)
  | .pas, st => (match st with
    | .Pass _ => true
    | _ => false)
  | .brk, st => (match st with
    | .Break _ => true
    | _ => false)
  | .cnt, st => (match st with
    | .Continue _ => true
    | _ => false)
def chkSs (mo : Mo) (c : CC) : Ss → List Stmt → Bool
  | .nil, ps => (match ps with
    | [] => true
    | _ => false)
  | .cons s r, ps => (match ps with
    | p :: ps => chkS mo c s p && chkSs mo c r ps
    | _ => false)
end
theorem chk_tup {mo : Mo} {c : CC} {e : E} {ps : List Expr} {k : Nat} {p : Pos} (h : chkE mo c e (.Tuple ps k p) = true) (hn : notNvr e = true) (hp : ps.all plainX = true) : ∃ es, e = .tup es := by
  cases e with
  | tstar a b =>
    unfold chkE at h
    split at h <;> try (cases h; done)
    rename_i heq
    cases heq
    simp [plainX] at hp
  | cst d => cases d <;> (unfold chkE at h; cases h)
  | tup es => exact ⟨es, rfl⟩
  | nvr => cases hn
  | frz _ => cases hn
  | _ => unfold chkE at h; cases h
theorem chk_comp {mo : Mo} {c : CC} {e : E} {el : Expr} {gs : List Comprehension} {sc : Scope} {p : Pos} (h : chkE mo c e (.ListComp el gs sc p) = true) (hn : notNvr e = true) : ∃ m a t it cd own, e = .comp m a t it cd own := by
  cases e with
  | cst d => cases d <;> (unfold chkE at h; cases h)
  | comp m a t it cd own => exact ⟨m, a, t, it, cd, own, rfl⟩
  | comp2 => cases hn
  | nvr => cases hn
  | frz _ => cases hn
  | _ => unfold chkE at h; cases h
theorem asg_ok {X : Cx} {ca : String → Addr} {W : WX} {C : Calls} {mo : Mo} {c : CC} {t : Tg} {e : E} {tg pe : Expr} {pos : Pos} (cc : CcOk X c) (mk : MoOk X ca C mo) (tk : Takes X W) (hn : notNvr e = true) (h1 : asgC c t tg pe = true) (h2 : tgC c t tg = true) (h3 : chkE mo c e pe = true) :
    PS X (.Assign [tg] pe pos) (zS X ca W C (.asg t e)) := by
  have he := (chkE_ok e cc mk tk h3).1
  have hg := pg_z (tg := tg) cc mk.calm h2
  unfold asgC at h1
  split at h1 <;> try (cases h1; done)
  · -- a comprehension
    rename_i y p pl gs scope p2
    simp only [Bool.and_eq_true, Bool.not_eq_true'] at h1
    obtain ⟨⟨⟨h4, h5⟩, h6⟩, h7⟩ := h1
    obtain ⟨m, el, t2, it, cd, own, rfl⟩ := chk_comp h3 hn
    · unfold chkE at h3
      split at h3 <;> try (cases h3; done)
      rename_i pl' tg' iter ifs as scope' pos' heq
      cases heq
      simp only [Bool.and_eq_true, decide_eq_true_eq] at h3
      obtain ⟨⟨⟨⟨⟨⟨⟨⟨rfl, k1⟩, k2⟩, k3⟩, k4⟩, k5⟩, k6⟩, k7⟩, k8⟩ := h3
      rw [List.all_eq_true] at k5
      cases t with
      | t is => unfold tgC at h2; cases h2
      | n i =>
        refine zs_setLc cc mk.calm (chkIt_ok it cc mk tk k2) (ownL := ownL c own) (by rw [cc.N, cc.sc]; exact blkOk_by k3) k4 (fun i hi => of_decide_eq_true (k5 i hi)) k1 ?_ ?_ ?_ h2 (of_decide_eq_true h4) (by unfold isFn at h5; split at h5 <;> first | assumption | cases h5) h6 h7
        · intro s H D cl fp
          exact pg_z (inner_cc cc s H _ D cl fp) mk.calm k6
        · intro s H D cl fp
          exact chkC_ok cd (inner_cc cc s H _ D cl fp) (inner_mo mk s H _ D cl fp) takesW0 k7
        · intro s H D cl fp
          exact (chkE_ok el (inner_cc cc s H _ D cl fp) (inner_mo mk s H _ D cl fp) takesW0 k8).1
  · -- two at once
    rename_i x p1 y p2 k p3 pa pb k2 p4
    split at h1 <;> try (cases h1; done)
    rename_i i j
    simp only [Bool.and_eq_true, Bool.not_eq_true', decide_eq_true_eq] at h1
    obtain ⟨⟨⟨⟨⟨⟨⟨⟨⟨g1, g2⟩, g3⟩, g4⟩, g5⟩, g6⟩, g7⟩, g8⟩, g9⟩, g10⟩ := h1
    have hk : c.sc.kind = .function := by unfold isFn at g1; split at g1 <;> first | assumption | cases g1
    obtain ⟨es, rfl⟩ := chk_tup h3 hn (by simp [g7, g8])
    · unfold chkE at h3
      simp only [Bool.and_eq_true] at h3
      have ih := chkEs_ok es cc mk tk h3.2
      obtain ⟨a, b, rfl, _⟩ := ih.two _ _ rfl
      unfold tgC namesC namesC at h2
      simp only [Bool.and_eq_true] at h2
      exact zs_par (e2 := .nvr) cc mk.calm (ih.pa h3.1.2) h2.1 h2.2.1 (of_decide_eq_true g2) (of_decide_eq_true g3) g6 (sw_some2 (by rw [cc.sc]; exact hk) (by rw [cc.sc]; exact of_decide_eq_true g2) (by rw [cc.sc]; exact of_decide_eq_true g3) g4 g5 g7 g8 g9 g10)
  · -- three at once
    rename_i x p1 y p2 z p3 k p4 pa pb pd k2 p5
    split at h1 <;> try (cases h1; done)
    rename_i i j l
    simp only [Bool.and_eq_true, Bool.not_eq_true', decide_eq_true_eq] at h1
    obtain ⟨⟨⟨⟨⟨⟨⟨⟨⟨⟨⟨⟨⟨⟨⟨⟨g1, g2⟩, g3⟩, g4⟩, g5⟩, g6⟩, g7⟩, g8⟩, g9⟩, g10⟩, g11⟩, g12⟩, g13⟩, g14⟩, g15⟩, g16⟩, g17⟩ := h1
    have hk : c.sc.kind = .function := by unfold isFn at g1; split at g1 <;> first | assumption | cases g1
    obtain ⟨es, rfl⟩ := chk_tup h3 hn (by simp [g13, g14, g15])
    · unfold chkE at h3
      simp only [Bool.and_eq_true] at h3
      have ih := chkEs_ok es cc mk tk h3.2
      unfold tgC namesC namesC namesC at h2
      simp only [Bool.and_eq_true] at h2
      cases es with
      | nil => have := ih.len; cases this
      | cons a r =>
        cases r with
        | nil => have := ih.len; cases this
        | cons b r =>
          cases r with
          | nil => have := ih.len; cases this
          | cons d r =>
            cases r with
            | cons _ _ => have := ih.len; cases this
            | nil =>
              have e2 := of_decide_eq_true g2
              have e3 := of_decide_eq_true g3
              have e4 := of_decide_eq_true g4
              exact zs_par3 cc mk.calm (ih.pa h3.1.2) h2.1 h2.2.1 h2.2.2.1 e2 e3 e4 g10 g11 g12 (sw_some3 (by rw [cc.sc]; exact hk) (by rw [cc.sc]; exact e2) (by rw [cc.sc]; exact e3) (by rw [cc.sc]; exact e4) g5 g6 g7 g8 g9 g13 g14 g15 g16 g17)
  · -- a name
    rename_i x p _ hne
    cases t with
    | t is => unfold tgC at h2; cases h2
    | n i =>
      have hx : compX pe = false := by simpa using h1
      exact zs_set cc he (swaps_plain hx) h2
  · -- names
    rename_i ts k p _ _ _
    simp only [Bool.and_eq_true, Bool.not_eq_true'] at h1
    obtain ⟨g1, g2⟩ := h1
    refine zs_asg he g1 hg (sw_none ?_) rfl
    cases pe <;> first | rfl | cases g2
mutual
theorem chkS_ok {ca : String → Addr} {C : Calls} {mo : Mo} : ∀ (s : S) {X : Cx} {W : WX} {c : CC} {st : Stmt} (cc : CcOk X c) (mk : MoOk X ca C mo) (tk : Takes X W) (hp : PassesOwn (model X.prog X.w) X.A X.env X.xe), chkS mo c s st = true → PS X st (zS X ca W C s)
  | .nvr, X, W, c, st, cc, mk, tk, hp, h => zs_nvr
  | .ex e, X, W, c, st, cc, mk, tk, hp, h => by
    unfold chkS at h
    split at h <;> try (cases h; done)
    simp only [Bool.and_eq_true, Bool.not_eq_true'] at h
    exact zs_ex (chkE_ok e cc mk tk h.2).1 h.1
  | .asg t e, X, W, c, st, cc, mk, tk, hp, h => by
    unfold chkS at h
    split at h <;> try (cases h; done)
    simp only [Bool.and_eq_true] at h
    rw [Bool.or_eq_true, Bool.or_eq_true] at h
    rcases h.1.1.2 with (h' | h') | h'
    · exact asg_ok cc mk tk h.1.1.1 h' h.1.2 h.2
    · rename_i tg pe pos
      have hg := pg_z (tg := tg) cc mk.calm h.1.2
      unfold asgF at h'
      split at h' <;> try (cases h'; done)
      exact zs_asg (chkE_ok e cc mk tk h.2).1 rfl hg (sw_fold h') rfl
    · rename_i tg pe pos
      have hg := pg_z (tg := tg) cc mk.calm h.1.2
      have h0 := h'
      unfold asgL at h'
      split at h' <;> try (cases h'; done)
      exact zs_asg (chkE_ok e cc mk tk h.2).1 rfl hg (sw_cell cc.sc h0) rfl
  | .asgIx a i e, X, W, c, st, cc, mk, tk, hp, h => by
    unfold chkS at h
    split at h <;> try (cases h; done)
    simp only [Bool.and_eq_true, Bool.not_eq_true'] at h
    exact zs_asgIx (by have := mk.un; omega) (chkE_ok e cc mk tk h.2).1 (chkE_ok a cc mk tk h.1.1.2).1 (chkE_ok i cc mk tk h.1.2).1 h.1.1.1.1 h.1.1.1.2
  | .aug i op e, X, W, c, st, cc, mk, tk, hp, h => by
    unfold chkS at h
    split at h <;> try (cases h; done)
    simp only [Bool.and_eq_true, decide_eq_true_eq] at h
    obtain ⟨⟨⟨h1, rfl⟩, h2⟩, h3⟩ := h
    exact zs_aug cc h2 h1 (chkE_ok e cc mk tk h3).1
  | .ret o, X, W, c, st, cc, mk, tk, hp, h => by
    unfold chkS at h
    split at h <;> try (cases h; done)
    rename_i p _
    cases o with
    | non =>
      unfold chkO at h
      split at h <;> try (cases h; done)
      exact zs_retN
    | som e =>
      unfold chkO at h
      split at h <;> try (cases h; done)
      exact zs_ret (chkE_ok e cc mk tk h).1
  | .iff e s1 s2, X, W, c, st, cc, mk, tk, hp, h => by
    unfold chkS at h
    split at h <;> try (cases h; done)
    simp only [Bool.and_eq_true] at h
    exact zs_if ((chkE_ok e cc mk tk h.1.1.2).2 h.1.1.1) (chkSs_ok s1 cc mk tk hp h.1.2) (chkSs_ok s2 cc mk tk hp h.2)
  | .whl e s1, X, W, c, st, cc, mk, tk, hp, h => by
    unfold chkS at h
    split at h <;> try (cases h; done)
    simp only [Bool.and_eq_true] at h
    exact zs_while hp ((chkE_ok e cc mk tk h.1.2).2 h.1.1) (chkSs_ok s1 cc mk tk hp h.2)
  | .for_ t it s1, X, W, c, st, cc, mk, tk, hp, h => by
    unfold chkS at h
    split at h <;> try (cases h; done)
    simp only [Bool.and_eq_true] at h
    exact zs_for hp mk.calm (chkIt_ok it cc mk tk h.1.2) (pg_z cc mk.calm h.1.1.2) (chkSs_ok s1 cc mk tk hp h.2) h.1.1.1
  | .rais ec es, X, W, c, st, cc, mk, tk, hp, h => by
    unfold chkS at h
    split at h <;> try (cases h; done)
    simp only [Bool.and_eq_true, decide_eq_true_eq] at h
    obtain ⟨⟨⟨⟨rfl, h1⟩, h2⟩, h3⟩, h4⟩ := h
    split at h4 <;> try (cases h4; done)
    obtain ⟨g1, g2⟩ := glC_ok cc h1
    obtain ⟨T, hm⟩ := mk.ex.ex ec h2
    exact zs_rais mk.calm tk T (mk.bl "super" (by decide)) (mk.rr (fun e => by rw [e] at h2; cases h2)).1 g1 hm g2 h3 (chkE_ok _ cc mk tk h4).1
  | .tr b i hs, X, W, c, st, cc, mk, tk, hp, h => by
    unfold chkS at h
    split at h <;> try (cases h; done)
    simp only [Bool.and_eq_true, decide_eq_true_eq, List.all_eq_true] at h
    obtain ⟨⟨⟨⟨h1, h2⟩, h3⟩, h4⟩, h5⟩ := h
    rw [← cc.N] at h1
    rw [← cc.sc] at h2 h4
    by_cases hne : hs = []
    · subst hne
      unfold hdC at h4
      cases h4
    · obtain ⟨_, r1, r2⟩ := mk.rr (fun e => by
        cases hs with
        | nil => exact hne rfl
        | cons q r => have := h3 q List.mem_cons_self; rw [e] at this; cases this)
      exact zs_tr r1 r2 cc.nd h1 h2 tk mk.ex h3 h4 fun W' pn xe tk' hp' => chkSs_ok b (X := X.tr pn xe) ⟨cc.N, cc.sc, cc.fn, cc.nd⟩ ⟨mk.calm, mk.un, mk.gl, mk.fs, mk.bl, mk.lam, mk.hs, mk.ex, mk.rr⟩ tk' hp' h5
  | .pas, X, W, c, st, cc, mk, tk, hp, h => by
    unfold chkS at h
    split at h <;> try (cases h; done)
    exact zs_pass
  | .brk, X, W, c, st, cc, mk, tk, hp, h => by
    unfold chkS at h
    split at h <;> try (cases h; done)
    exact zs_break
  | .cnt, X, W, c, st, cc, mk, tk, hp, h => by
    unfold chkS at h
    split at h <;> try (cases h; done)
    exact zs_cont
theorem chkSs_ok {ca : String → Addr} {C : Calls} {mo : Mo} : ∀ (s : Ss) {X : Cx} {W : WX} {c : CC} {st : List Stmt} (cc : CcOk X c) (mk : MoOk X ca C mo) (tk : Takes X W) (hp : PassesOwn (model X.prog X.w) X.A X.env X.xe), chkSs mo c s st = true → PSs X st (zSs X ca W C s)
  | .nil, X, W, c, st, cc, mk, tk, hp, h => by
    unfold chkSs at h
    split at h <;> try (cases h; done)
    exact zss_nil
  | .cons s r, X, W, c, st, cc, mk, tk, hp, h => by
    unfold chkSs at h
    split at h <;> try (cases h; done)
    rw [Bool.and_eq_true] at h
    exact zss_cons (chkS_ok s cc mk tk hp h.1) (chkSs_ok r cc mk tk hp h.2)
end
end Z


/-! Z19: defs keep their promises. -/
namespace Z
open PySem L2 PySem.Spec PyProof.Rows

section
variable {K : PySem.W.Frag} {ca : String → Addr} {W : WX} {ρ ρ' : Pl} {M M' : Sto} {H H' : Hp} {Q : VK}
mutual
theorem RD.back {al al' : Addr → Prop} (hp : ∀ (i : Nat) (a : Addr), ρ.l[i]? = some a → ρ'.l[i]? = some a) (hal : ∀ b, al b → al' b) : ∀ {d : D} {v v' : V} {H0 : Hp} {al0 : Addr → Prop}, RD K H0 al0 ρ d v → RD K H' al' ρ' d v' → RD K H' al ρ d v'
  | _, _, _, _, _, .non, h => by cases h; exact .non
  | _, _, _, _, _, .bl _, h => by cases h; exact .bl _
  | _, _, _, _, _, .int _, h => by cases h; exact .int _
  | _, _, _, _, _, .str _, h => by cases h; exact .str _
  | _, _, _, _, _, .tup _ _ _ r, h => by
    cases h with
    | tup h1 n z r' => exact .tup h1 (fun q => n (hal _ q)) z (RDs.back hp hal r r')
    | tupK h1 h2 h3 h4 h5 z r' => exact .tupK h1 h2 h3 h4 h5 z (RDs.back hp hal r r')
  | _, _, _, _, _, .tupK _ _ _ _ _ _ r, h => by
    cases h with
    | tup h1 n z r' => exact .tup h1 (fun q => n (hal _ q)) z (RDs.back hp hal r r')
    | tupK h1 h2 h3 h4 h5 z r' => exact .tupK h1 h2 h3 h4 h5 z (RDs.back hp hal r r')
  | _, _, _, _, _, .pr _ _ _ r, h => by
    cases h with
    | pr h1 n z r' => exact .pr h1 (fun q => n (hal _ q)) z (RDs.back hp hal r r')
  | _, _, _, _, _, .lst _ _ _ r, h => by
    cases h with
    | lst h1 n z r' => exact .lst h1 (fun q => n (hal _ q)) z (RDs.back hp hal r r')
  | _, _, _, _, _, .scr _ _ _ r, h => by
    cases h with
    | scr h1 n z r' => exact .scr h1 (fun q => n (hal _ q)) z (RDs.back hp hal r r')
    | scrK h1 z r' => exact .scrK h1 z (RDs.back hp hal r r')
  | _, _, _, _, _, .scrK _ _ r, h => by
    cases h with
    | scr h1 n z r' => exact .scr h1 (fun q => n (hal _ q)) z (RDs.back hp hal r r')
    | scrK h1 z r' => exact .scrK h1 z (RDs.back hp hal r r')
  | _, _, _, _, _, .loc h0, h => by
    cases h with
    | loc h1 => rw [hp _ _ h0] at h1; cases h1; exact .loc h0
theorem RDs.back {al al' : Addr → Prop} (hp : ∀ (i : Nat) (a : Addr), ρ.l[i]? = some a → ρ'.l[i]? = some a) (hal : ∀ b, al b → al' b) : ∀ {d : List D} {v v' : List V} {H0 : Hp} {al0 : Addr → Prop}, RDs K H0 al0 ρ d v → RDs K H' al' ρ' d v' → RDs K H' al ρ d v'
  | _, _, _, _, _, .nil, h => by cases h; exact .nil
  | _, _, _, _, _, .cons h r, h' => by
    cases h' with
    | cons k s => exact .cons (RD.back hp hal h k) (RDs.back hp hal r s)
end
theorem RKs.back {al al' : Addr → Prop} (hp : ∀ (i : Nat) (a : Addr), ρ.l[i]? = some a → ρ'.l[i]? = some a) (hal : ∀ b, al b → al' b) : ∀ {d : List (Key × D)} {v v' : List (Key × V)} {H0 : Hp} {al0 : Addr → Prop}, RKs K H0 al0 ρ d v → RKs K H' al' ρ' d v' → RKs K H' al ρ d v'
  | _, _, _, _, _, .nil, h => by cases h; exact .nil
  | _, _, _, _, _, .cons h r, h' => by
    cases h' with
    | cons k s => exact .cons (h.back hp hal k) (RKs.back hp hal r s)
theorem al_back (x : Ext ρ M H ρ' M' H') (ht : M'.take M.length = M) : ∀ b, Al ρ M b → Al ρ' M' b := by
  rintro b (h | ⟨i, o, h1, h2, h3⟩)
  · exact .inl (by rw [x.hid]; exact h)
  · refine .inr ⟨i, o, x.at h1, ?_, h3⟩
    obtain ⟨l, _⟩ := List.getElem?_eq_some_iff.mp h2
    rw [← ht, List.getElem?_take, if_pos l] at h2
    exact h2
theorem rep_back (rp : Rep K ρ M H) (rp' : Rep K ρ' M' H') (x : Ext ρ M H ρ' M' H') (ht : M'.take M.length = M) : Rep K ρ M H' ∧ Ext ρ M H ρ M H' := by
  have hal := al_back x ht
  refine ⟨⟨rp.len, rp.nd, fun i a o h1 h2 => ?_, fun b hb => ⟨(rp.hid b hb).1, by rw [x.hk b hb]; exact (rp.hid b hb).2⟩, fun p hp => ?_⟩, ⟨[], by simp⟩, rfl, x.hk, fun b o hb tb nb => ?_⟩
  · have h2' : M'[i]? = some o := by
      obtain ⟨l, _⟩ := List.getElem?_eq_some_iff.mp h2
      have h3 := h2
      rw [← ht, List.getElem?_take, if_pos l] at h3
      exact h3
    have r1 := rp'.obj i a o (x.at h1) h2'
    have r0 := rp.obj i a o h1 h2
    cases r1 with
    | dead h n => exact .dead h n
    | lst h z r =>
      cases r0 with
      | lst _ _ r0 => exact .lst h z (r0.back (fun i a h => x.at h) hal r)
    | dct h z r =>
      cases r0 with
      | dct _ _ r0 => exact .dct h z (r0.back (fun i a h => x.at h) hal r)
  · obtain ⟨h1, h2, _⟩ := rp.tab p hp
    exact ⟨h1, h2, (rp'.tab p hp).2.2⟩
  · obtain ⟨h1, h2⟩ := x.keep b o hb tb nb
    exact ⟨h1, nb⟩
mutual
theorem still_any {al al' : Addr → Prop} {ρ2 : Pl} (hal : ∀ b, al b → al' b) : ∀ {d : D} {v : V}, d.still = true → RD K H' al' ρ' d v → RD K H' al ρ2 d v
  | .non, _, _, h => by cases h; exact .non
  | .bl _, _, _, h => by cases h; exact .bl _
  | .int _, _, _, h => by cases h; exact .int _
  | .str _, _, _, h => by cases h; exact .str _
  | .tup xs, _, hf, h => by
    unfold D.still at hf
    cases h with
    | tup h1 n z r => exact .tup h1 (fun q => n (hal _ q)) z (stills_any hal hf r)
    | tupK h1 h2 h3 h4 h5 z r => exact .tupK h1 h2 h3 h4 h5 z (stills_any hal hf r)
  | .lst xs, _, hf, h => by
    unfold D.still at hf
    cases h with
    | lst h1 n z r => exact .lst h1 (fun q => n (hal _ q)) z (stills_any hal hf r)
  | .scr _, _, hf, _ => by unfold D.still at hf; cases hf
  | .loc _, _, hf, _ => by unfold D.still at hf; cases hf
  | .pr _, _, hf, _ => by unfold D.still at hf; cases hf
theorem stills_any {al al' : Addr → Prop} {ρ2 : Pl} (hal : ∀ b, al b → al' b) : ∀ {d : List D} {v : List V}, D.stills d = true → RDs K H' al' ρ' d v → RDs K H' al ρ2 d v
  | [], _, _, h => by cases h; exact .nil
  | x :: r, _, hf, h => by
    unfold D.stills at hf
    rw [Bool.and_eq_true] at hf
    cases h with
    | cons k s => exact .cons (still_any hal hf.1 k) (stills_any hal hf.2 s)
end
mutual
theorem frz_rd (rp : Rep K ρ M H) (rp' : Rep K ρ' M' H') (x : Ext ρ M H ρ' M' H') (hal : ∀ b, Al ρ M b → Al ρ' M' b) : ∀ {d r : D} {v : V}, RD K H' (Al ρ' M') ρ' d v → D.frz M' M.length d = some r → RD K H' (Al ρ M) ρ r v
  | .non, _, _, h, e => by rw [D.frz] at e; cases e; cases h; exact .non; all_goals simp
  | .bl _, _, _, h, e => by rw [D.frz] at e; cases e; cases h; exact .bl _; all_goals simp
  | .int _, _, _, h, e => by rw [D.frz] at e; cases e; cases h; exact .int _; all_goals simp
  | .str _, _, _, h, e => by rw [D.frz] at e; cases e; cases h; exact .str _; all_goals simp
  | .tup xs, _, _, h, e => by
    rw [D.frz] at e
    cases hx : D.frzs M' M.length xs with
    | none => rw [hx] at e; cases e
    | some ys =>
      rw [hx] at e; cases e
      cases h with
      | tup h1 n z r => exact .tup h1 (fun q => n (hal _ q)) z (frzs_rd rp rp' x hal r hx)
      | tupK h1 h2 h3 h4 h5 z r => exact .tupK h1 h2 h3 h4 h5 z (frzs_rd rp rp' x hal r hx)
  | .lst xs, _, _, h, e => by
    rw [D.frz] at e
    cases hx : D.frzs M' M.length xs with
    | none => rw [hx] at e; cases e
    | some ys =>
      rw [hx] at e; cases e
      cases h with
      | lst h1 n z r => exact .lst h1 (fun q => n (hal _ q)) z (frzs_rd rp rp' x hal r hx)
  | .scr xs, _, _, h, e => by
    rw [D.frz] at e
    cases hx : D.frzs M' M.length xs with
    | none => rw [hx] at e; cases e
    | some ys =>
      rw [hx] at e; cases e
      cases h with
      | scr h1 n z r => exact .scr h1 (fun q => n (hal _ q)) z (frzs_rd rp rp' x hal r hx)
      | scrK h1 z r => exact .scrK h1 z (frzs_rd rp rp' x hal r hx)
  | .pr xs, _, _, h, e => by rw [D.frz] at e; cases e
  | .loc k, _, _, h, e => by
    rw [D.frz] at e
    obtain ⟨a, rfl, ha⟩ := h.loc_inv
    split at e
    · rename_i hk
      cases e
      have hl : k < ρ.l.length := by rw [rp.len]; exact hk
      have e1 := x.at (List.getElem?_eq_getElem hl)
      rw [ha] at e1
      exact .loc (by rw [e1]; exact List.getElem?_eq_getElem hl)
    · rename_i hk
      split at e
      · rename_i xs hm
        split at e
        · rename_i hf
          cases e
          obtain ⟨vs, h1, h2, h3⟩ := rp'.lst_at hm ha
          refine .lst h1 ?_ h2 (stills_any hal hf h3)
          rintro (hb | ⟨i, o, g1, g2, g3⟩)
          · exact (rp'.hid a (by rw [x.hid]; exact hb)).1 (List.mem_of_getElem? ha)
          · have g4 := x.at g1
            obtain ⟨l1, e1⟩ := List.getElem?_eq_some_iff.mp g4
            obtain ⟨l2, e2⟩ := List.getElem?_eq_some_iff.mp ha
            have := (List.getElem_inj rp'.nd).mp (e1.trans e2.symm)
            obtain ⟨l3, _⟩ := List.getElem?_eq_some_iff.mp g2
            omega
        · cases e
      · cases e
theorem frzs_rd (rp : Rep K ρ M H) (rp' : Rep K ρ' M' H') (x : Ext ρ M H ρ' M' H') (hal : ∀ b, Al ρ M b → Al ρ' M' b) : ∀ {d r : List D} {v : List V}, RDs K H' (Al ρ' M') ρ' d v → D.frzs M' M.length d = some r → RDs K H' (Al ρ M) ρ r v
  | [], _, _, h, e => by rw [D.frzs] at e; cases e; cases h; exact .nil
  | y :: ys, _, _, h, e => by
    rw [D.frzs] at e
    cases hx : D.frz M' M.length y with
    | none => rw [hx] at e; cases e
    | some u =>
      cases hy : D.frzs M' M.length ys with
      | none => rw [hx, hy] at e; cases e
      | some us =>
        rw [hx, hy] at e; cases e
        cases h with
        | cons k s => exact .cons (frz_rd rp rp' x hal k hx) (frzs_rd rp rp' x hal s hy)
end
/-- behind a def -/
theorem back_rd {own : Bool} {d : D} {v : V} {σ : L2.St} (rp : Rep K ρ M H) (rp' : Rep K ρ' M' H') (x : Ext ρ M H ρ' M' H') (q : RD K H' (Al ρ' M') ρ' d v) (f : Fi K ca (rDD K) W σ ρ M H (back own M d M') Q) : Q v H' := by
  unfold back at f
  cases own with
  | false =>
    rw [if_neg (by decide)] at f
    exact f ρ' H' v rp' x q
  | true =>
    rw [if_pos rfl] at f
    split at f
    · rename_i ht
      cases hz : D.frz M' M.length d with
      | none => rw [hz] at f; exact f.elim
      | some r =>
        rw [hz] at f
        obtain ⟨rp2, x2⟩ := rep_back rp rp' x ht
        exact f ρ H' v rp2 x2 (frz_rd rp rp' x (al_back x ht) q hz)
    · exact f.elim
theorem backX_rd {own : Bool} {c : String} {p : Option D} {cv : Value} {dd : Option Addr} {σ : L2.St} (rp : Rep K ρ M H) (rp' : Rep K ρ' M' H') (x : Ext ρ M H ρ' M' H') (q : RX K ca H' (Al ρ' M') ρ' c p cv dd) (f : Fi K ca (rDD K) W σ ρ M H (backX own M c p M') Q) : W cv dd σ H' := by
  unfold backX at f
  cases own with
  | false =>
    rw [if_neg (by decide)] at f
    exact f ρ' H' cv dd rp' x q
  | true =>
    rw [if_pos rfl] at f
    split at f
    · rename_i ht
      obtain ⟨rp2, x2⟩ := rep_back rp rp' x ht
      cases p with
      | none => exact f ρ H' cv dd rp2 x2 ⟨q.1, trivial⟩
      | some d =>
        dsimp only at f
        cases hz : D.frz M' M.length d with
        | none => rw [hz] at f; exact f.elim
        | some r =>
          rw [hz] at f
          obtain ⟨q1, a, v, e1, na, e2, qd⟩ := q
          exact f ρ H' cv dd rp2 x2 ⟨q1, a, v, e1, fun z => na (al_back x ht _ z), e2, frz_rd rp rp' x (al_back x ht) qd hz⟩
    · exact f.elim
end
/-- the promises under a wider wish for what is raised -/
theorem FnOk.cx {P : Program} {w : World} {K : PySem.W.Frag} {mg : Str → Option Value} {base : Heap} {CX CX' : CXT} {k : Nat} {f : Addr} {fd : FuncData} {ps : List Str} {sp : Sp} (F : FnOk P w K mg base CX k f fd ps sp) (i : ∀ o H s E u s', CX o H s E u s' → CX' o H s E u s') : FnOk P w K mg base CX' k f fd ps sp :=
  ⟨F.len, fun A outer s H args us vs Q E hr he hb r h => codeAny_mono (F.run A outer s H args us vs Q E hr he hb r h) fun x s' hx => by
    cases x with
    | ok fl => cases fl <;> exact hx
    | error e => exact i _ _ _ _ _ _ hx⟩
/-- keywords in the parameters' order -/
def KwB (K : PySem.W.Frag) (fd : FuncData) (ps : List Str) : Option (List Str × List Nat) → Prop
  | none => Binds K fd ps []
  | some kp => ∀ (s : Shared) (us ws : List Value), K.In s.heap → ws.length = kp.1.length → (us ++ permL kp.2 ws).length = ps.length → BindsTo s fd ⟨us, kp.1.zip ws⟩ (ps.zip (us ++ permL kp.2 ws))
/-- lambdas are made in defs that are marked so alone -/
def Mo.nl (mo : Mo) : Mo := ⟨mo.gl, mo.fs, [], mo.ex⟩
def moOf (mo : Mo) (low : Nat) : Mo := if low = 2 then mo else mo.nl
/-- a def of the table: its text is what the table says -/
structure DefT (K : PySem.W.Frag) (mg : Str → Option Value) (T : String → Option Fn) (mo : Mo) (g : String) : Prop where
  is : ∃ (fn : Fn) (f : Addr) (fd : FuncData) (x qual : Str) (params : Arguments) (body : List Stmt) (scope : Scope) (N ps : List Str), T g = some fn ∧ FunD K x qual params body scope [] [] f fd ∧ FnScope N ps scope ∧ ps.length = fn.np ∧ N.length = fn.ns ∧
    chkSs (moOf mo fn.low) ⟨N, scope, fun _ => true⟩ fn.body body = true ∧ mg (Str.ofString g) = some (.ref f) ∧ (∀ p ∈ mo.fs, p.1 = g → KwB K fd ps p.2) ∧
    (fn.low = 2 → ∃ c P, fd.code = .ref c ∧ (c, P, (qual ++ (".<locals>." : Str)) ++ ("<lambda>" : Str)) ∈ csK K)
structure TabOk (P : Program) (K : PySem.W.Frag) (mg : Str → Option Value) (ca : String → Addr) (T : String → Option Fn) (mo : Mo) : Prop where
  defs : ∀ p ∈ mo.fs, DefT K mg T mo p.1
  gl : ∀ p ∈ mo.gl, ∃ v u, mg (Str.ofString p.1) = some u ∧ RelV v u ∧ ∀ H al ρ, RD K H al ρ p.2 v
  bl : ∀ x ∈ bltN, mg x = none
  hs : ∀ p ∈ mo.hs, HeardK P K mg ca p.1 p.2
  ex : ErrOk P K mg ca mo.ex
  hu : ∀ p ∈ tbK K, ∀ p' ∈ tbK K, p.1 = p'.1 → p.2 = p'.2
def lvl : Nat → Nat
  | 0 => 0
  | n + 1 => n + 3
theorem lvl_le : ∀ n : Nat, lvl n ≤ n + 2
  | 0 => by decide
  | n + 1 => Nat.le_refl _
theorem lvl_low : ∀ n : Nat, lvl (n - 2) ≤ n
  | 0 => by decide
  | 1 => by decide
  | 2 => by decide
  | n + 3 => Nat.le_refl _
section
variable {P : Program} {w : World} {K : PySem.W.Frag} {mg : Str → Option Value} {base : Heap} {T : String → Option Fn} {mo : Mo} {ca : String → Addr}
theorem start_re {N : List Str} {ρ : Pl} {M : Sto} {H : Hp} {ds : List D} {vs : List V} (rp : Rep K ρ M H) (r : RDs K H (Al ρ M) ρ ds vs) {n m : Nat} (hn : ds.length = m) (hN : N.length = n) : RE K ρ M H (ds.map some ++ List.replicate (n - m) none) (L2.start N vs) := by
  have hl := r.length
  unfold L2.start
  refine ⟨by simp only [List.length_append, List.length_map, List.length_replicate]; omega, fun i d h => ?_⟩
  by_cases hi : i < ds.length
  · rw [List.getElem?_append_left (by rw [List.length_map]; exact hi), List.getElem?_map] at h
    cases hd : ds[i]? with
    | none => rw [hd] at h; cases h
    | some d' =>
      rw [hd] at h
      cases h
      obtain ⟨v, h1, h2⟩ := r.get hd
      exact ⟨v, by rw [List.getElem?_append_left (by rw [List.length_map, ← hl]; exact hi), List.getElem?_map, h1]; rfl, h2⟩
  · rw [List.getElem?_append_right (by rw [List.length_map]; omega), List.getElem?_replicate] at h
    split at h <;> cases h
/-- every def of the table, at every depth -/
theorem def_ok (tab : TabOk P K mg ca T mo) (hTB : ∀ p ∈ csK K, LamX.TabB base mg p.1 p.2.1) : ∀ (n : Nat) {g : String} {fn : Fn} {f : Addr} {fd : FuncData} {x qual : Str} {params : Arguments} {body : List Stmt} {scope : Scope} {N ps : List Str}, T g = some fn → FunD K x qual params body scope [] [] f fd → FnScope N ps scope → ps.length = fn.np → N.length = fn.ns →
    chkSs (moOf mo fn.low) ⟨N, scope, fun _ => true⟩ fn.body body = true → (fn.low = 2 → ∃ c P, fd.code = .ref c ∧ (c, P, (qual ++ (".<locals>." : Str)) ++ ("<lambda>" : Str)) ∈ csK K) → FnOk P w K mg base (L2.CX P w) (lvl n) f fd ps (spC K ca (callN T n) g)
  | 0, g, fn, f, fd, x, qual, params, body, scope, N, ps, hT, F, S, hp, hN, hb, ht => by
    refine ⟨fun vs H Q E h => ?_, fun A outer s H args us vs Q E _ _ _ _ h => ?_⟩
    · obtain ⟨ρ, M, ds, _, _, h⟩ := h
      rw [callN] at h
      exact h.elim
    · obtain ⟨ρ, M, ds, _, _, h⟩ := h
      rw [callN] at h
      exact h.elim
  | n + 1, g, fn, f, fd, x, qual, params, body, scope, N, ps, hT, F, S, hp, hN, hb, ht => by
    have hr : ∀ (ds : List D) (M : Sto), callN T (n + 1) g ds M = runF (callN T (n - fn.low)) fn ds M := by
      intro ds M
      rw [callN]
      simp only [hT]
    have all : ∀ p ∈ mo.fs, ∀ {N' : List Str} {scope' : Scope} {qual' : Str} {f' : Addr} {cdv : Value} {A : Around} {outer : List Env} {s : Shared} {H : Hp} {E : XK}, FnL (cxOf (L2.CX P w) P w K mg base N' qual' scope' f' cdv A outer s H E) ca (callN T (n - fn.low)) p.1 (Str.ofString p.1) p.2 (lvl (n - fn.low)) := by
      intro p hp' N' scope' qual' f' cdv A outer s H E
      obtain ⟨fn2, f2, fd2, x2, q2, pa2, b2, sc2, N2, ps2, t1, t2, t3, t4, t5, t6, t7, t8, t9⟩ := (tab.defs p hp').is
      have ih := def_ok tab hTB (n - fn.low) t1 t2 t3 t4 t5 t6 t9
      have k8 := t8 p hp' rfl
      refine ⟨f2, fd2, ps2, ih, t7, t2.kp, ?_⟩
      cases hk : p.2 with
      | none => rw [hk] at k8; exact k8
      | some ks => rw [hk] at k8; exact k8
    obtain ⟨oc, od, dV, kV, doc, pm, an, cdv, ct, osl, rfl, lk, hcd, _, _⟩ := F.ex
    have hfs : (moOf mo fn.low).fs = mo.fs := by unfold moOf; split <;> rfl
    have hgl : (moOf mo fn.low).gl = mo.gl := by unfold moOf; split <;> rfl
    have hex : (moOf mo fn.low).ex = mo.ex := by unfold moOf; split <;> rfl
    refine fn_of (k := n + 2) lk hcd S (fun vs H Q E h => ?_) (fun A outer s H vs Q E hroom h => ⟨zSs (cxOf (L2.CX P w) P w K mg base N qual scope f cdv A outer s H E) ca (fun c d _ H => E c d H) (callN T (n - fn.low)) fn.body, ?_, ?_⟩)
    · obtain ⟨ρ, M, ds, rp, r, h⟩ := h
      rw [hr] at h
      unfold runF at h
      split at h
      · rename_i hl
        rw [hp, ← hl, r.length]
      · exact h.elim
    · refine chkSs_ok fn.body (mo := moOf mo fn.low) (c := ⟨N, scope, fun _ => true⟩) ⟨rfl, rfl, rfl, S.nd⟩ ⟨rfl, room65 hroom, by rw [hgl]; exact tab.gl, fun p hp' => ?_, tab.bl, fun hne => ?_, fun p hp' => ?_, by rw [hex]; exact tab.ex, fun _ => ⟨hroom.mono (by omega), rfl, rfl⟩⟩ ?_ ?_ hb
      · rw [hfs] at hp'
        exact ⟨_, all p hp', hroom.mono (by have := lvl_le (n - fn.low); omega)⟩
      · have e2 : fn.low = 2 := by
          by_cases e : fn.low = 2
          · exact e
          · exact absurd (by unfold moOf; rw [if_neg e]; rfl) hne
        obtain ⟨c, Pt, g1, g2⟩ := ht e2
        refine ⟨⟨lvl (n - fn.low), fun p hp' => by rw [hfs] at hp'; exact all p hp', hroom.mono (by have := lvl_low n; rw [e2]; omega)⟩, ⟨c, Pt, g2, g1, hTB _ g2⟩, tab.hu⟩
      · have hm : p ∈ mo.hs := by
          unfold moOf at hp'
          split at hp'
          · exact hp'
          · cases hp'
        exact tab.hs p hm
      · exact takes_of rfl rfl rfl rfl
      · exact passes_of rfl
    · obtain ⟨ρ, M, ds, rp, r, h⟩ := h
      rw [hr] at h
      unfold runF at h
      split at h
      · rename_i hl
        refine ⟨ρ, ds.map some ++ List.replicate (fn.ns - fn.np) none, M, rp, start_re rp r hl hN, ?_⟩
        cases ho : evSs (callN T (n - fn.low)) fn.body (ds.map some ++ List.replicate (fn.ns - fn.np) none) M with
        | fail => rw [ho] at h; exact h.elim
        | ok fl M' =>
          rw [ho] at h
          cases fl with
          | nx env' => exact fun ρ' H' σ' rp' x' _ => back_rd rp rp' x' .non h
          | ret d => exact fun ρ' H' v rp' x' q => back_rd rp rp' x' q h
          | brk env' => exact h.elim
          | cnt env' => exact h.elim
          | exc env' c p => exact fun ρ' H' σ' cv dd rp' x' _ qx => backX_rd rp rp' x' qx h
      · exact h.elim
termination_by n => n
decreasing_by omega
end
end Z


/-! Z20: how a law ends. -/
namespace Z
open PySem L2 PySem.Spec PyProof.Rows

theorem fm {α : Type} {P : α → Prop} {a : α} {l : List α} (h : P a) (t : ∀ p ∈ l, P p) : ∀ p ∈ a :: l, P p := fun p hp => by
  rcases List.mem_cons.mp hp with rfl | hp
  · exact h
  · exact t p hp
theorem fz {α : Type} {P : α → Prop} : ∀ p ∈ ([] : List α), P p := fun _ h => by cases h
section
variable {K : PySem.W.Frag} {fd : FuncData} {ps : List Str} {mo : Mo} {x qual : Str} {params : Arguments} {body : List Stmt} {scope : Scope} {f : Addr}
theorem kw_of {g : String} {L : List (Option (List Str × List Nat))} (h : (mo.fs.filter fun p => decide (p.1 = g)).map (·.2) = L) (hL : ∀ k ∈ L, KwB K fd ps k) : ∀ p ∈ mo.fs, p.1 = g → KwB K fd ps p.2 := by
  intro p hp e
  apply hL
  rw [← h]
  exact List.mem_map.mpr ⟨p, List.mem_filter.mpr ⟨hp, decide_eq_true e⟩, rfl⟩
theorem permL_len {α β : Type} {π : List Nat} {xs : List α} {ys : List β} (h : xs.length = ys.length) : (permL π xs).length = (permL π ys).length := by
  unfold permL
  split
  · exact h
  · rename_i hn
    clear hn
    induction π with
    | nil => rfl
    | cons i t ih =>
      rw [List.filterMap_cons, List.filterMap_cons]
      by_cases hi : i < xs.length
      · rw [List.getElem?_eq_getElem hi, List.getElem?_eq_getElem (by omega)]
        simp only [List.length_cons, ih]
      · rw [List.getElem?_eq_none (by omega), List.getElem?_eq_none (by omega)]
        exact ih
theorem kw_pos (F : FunD K x qual params body scope [] [] f fd) (h : ∀ (kV doc pm : Value) (an : Option Addr) (cdv ct : Value) (us : List Value), us.length = ps.length → bindArgs (PySem.W.fnOf x qual params body scope .none kV doc pm an cdv ct) ⟨us, []⟩ = pure (ps.zip us)) : KwB K fd ps none := FunD.bindsN F h
theorem kw_kw {ks : List Str} {π : List Nat} {a : Nat} (ha : a + ks.length = ps.length) (hπ : (permL π (List.range ks.length)).length = ks.length) (F : FunD K x qual params body scope [] [] f fd) (h : ∀ (kV doc pm : Value) (an : Option Addr) (cdv ct : Value) (us ws : List Value), us.length = a → ws.length = ks.length → bindArgs (PySem.W.fnOf x qual params body scope .none kV doc pm an cdv ct) ⟨us, ks.zip ws⟩ = pure (ps.zip (us ++ permL π ws))) : KwB K fd ps (some (ks, π)) := by
  intro s us ws _ h1 h2
  obtain ⟨oc, od, dV, kV, doc, pm, an, cdv, ct, osl, rfl, lk, hcd, hD, hK⟩ := F.ex
  rcases hD with ⟨_, rfl⟩ | ⟨e, _⟩
  · exact .of_eq (h kV doc pm an cdv ct us ws (by rw [List.length_append, permL_len (ys := List.range ks.length) (by rw [List.length_range]; exact h1), hπ] at h2; omega) h1)
  · exact absurd rfl e
end
theorem rep_nil {K : PySem.W.Frag} {H : Hp} (ht : ∀ p ∈ tbK K, H p.1 = some (.tbl #[])) : Rep K ⟨[], []⟩ [] H := ⟨rfl, .nil, fun i a o h _ => by simp at h, (fun b hb => by cases hb), fun p hp => ⟨by simp, by simp, LamX.TabS.nil (ht p hp)⟩⟩
theorem rd_scr {K : PySem.W.Frag} {H : Hp} {a : Addr} {ns : List Int} (h : SqL K H a (ns.map V.int)) (hl : ns.length ≤ 1000000) : RD K H (Al ⟨[], []⟩ []) ⟨[], []⟩ (.scr (ns.map .int)) (.ref a) := by
  have r : RDs K H (Al ⟨[], []⟩ []) ⟨[], []⟩ (ns.map .int) (ns.map V.int) := by
    clear h hl
    induction ns with
    | nil => exact .nil
    | cons i r ih => exact .cons (.int i) ih
  have hz : (ns.map V.int).length ≤ sizeLine := by rw [List.length_map]; exact sz_le hl
  have na : ¬ Al ⟨[], []⟩ [] a := by
    rintro (h | ⟨i, o, h1, _⟩)
    · cases h
    · simp at h1
  rcases h with h | h
  · exact .scr h na hz r
  · exact .scrK h hz r
/-- the code objects and their tables, as the library's end wants them -/
def csL (K : PySem.W.Frag) : List (Addr × Addr) := (csK K).map fun p => (p.1, p.2.1)
theorem csL_of {K : PySem.W.Frag} {A : Addr × Addr → Prop} (h : ∀ p ∈ csK K, A (p.1, p.2.1)) : ∀ p ∈ csL K, A p := fun p hp => by
  obtain ⟨q, hq, e⟩ := List.mem_map.mp hp
  rw [← e]; exact h q hq
/-- a law's end, by what is reckoned of it -/
theorem law_end {l : PySem.W.OpenLaw} {q : Program} {loose : List Str} {XP : (Str → Option Value) → Heap → Prop} {YP : World → Heap → Prop} {d : DefRec} {n N : Nat} {x : Str} {T : String → Option Fn} {mo : Mo} {scope : Scope} {params : Arguments} {body : List Stmt} {Nl : List Str} {fn : Fn}
    (hn : l.most = some n) (hn2 : n ≤ 1000000) (hdf : d.params.defaults = []) (hr : Room (lvl N) callerA) (hd : d.name = Str.ofString "law")
    (hT : T "law" = some fn) (S : FnScope Nl [x] scope) (h1 : 1 = fn.np) (h2 : Nl.length = fn.ns) (hb : chkSs (moOf mo fn.low) ⟨Nl, scope, fun _ => true⟩ fn.body body = true)
    (hlaw : ∀ ns : List Int, ns.length ≤ n → ∃ M, callN T N "law" [.scr (ns.map .int)] [] = .ok (.bl true) M)
    (F : ∀ (w : World) (mg : Str → Option Value) (fa : Addr) (h : Heap), YP w h → h.Ns mainGlobals mg → mg (Str.ofString "law") = some (.ref fa) →
      ∃ (K : PySem.W.Frag) (ca : String → Addr) (fd : FuncData) (qual : Str), K.In h ∧ (∀ p ∈ csK K, h.get? p.2.1 = some { cls := .none, data := .fields #[] } ∧ K.lookup p.2.1 = none ∧ PySem.W.CodeHd h p.1 p.2.1) ∧ TabOk l.prog K mg ca T mo ∧ FunD K (Str.ofString "law") qual params body scope [] [] fa fd ∧
        (fn.low = 2 → ∃ c P, fd.code = .ref c ∧ (c, P, (qual ++ (".<locals>." : Str)) ++ ("<lambda>" : Str)) ∈ csK K) ∧ ∀ (s : Shared) (u : Value), BindsTo s fd ⟨[u], []⟩ [(x, u)]) :
    PySem.W.WalkO q loose XP YP l.row.toRowW d [] (fun f vs => PySem.call f vs) := by
  refine LamX.walk_ofTsE (l := l) (n := n) (k := lvl N) (x := x) (CX := fun w => L2.CX l.prog w) hn (sz_le hn2) hdf hr ?_ ?_
  · intro w mg fa h Y G hmg
    rw [hd] at hmg
    obtain ⟨K, ca, fd, qual, KX, hcs, tab, FD, hlow, bt⟩ := F w mg fa h Y G hmg
    refine ⟨K, KX, fd, csL K, spC K ca (callN T N) "law", csL_of fun p hp => (hcs p hp).1, csL_of fun p hp => (hcs p hp).2.1, csL_of fun p hp => (hcs p hp).2.2, bt, fun H a ns hl _ hH hS => ?_, fun base _ _ hTB => ?_⟩
    · obtain ⟨M, e⟩ := hlaw ns hl
      refine ⟨⟨[], []⟩, [], [.scr (ns.map .int)], rep_nil fun p hp => ?_, .cons (rd_scr hS (Nat.le_trans hl hn2)) .nil, ?_⟩
      · obtain ⟨r, hr, e⟩ := List.mem_map.mp hp
        rw [← e]
        exact hH (r.1, r.2.1) (List.mem_map.mpr ⟨r, hr, rfl⟩)
      · rw [e]
        intro ρ' H' b _ _ q
        exact q.bl_inv
    · exact def_ok tab (fun p hp => hTB (p.1, p.2.1) (List.mem_map.mpr ⟨p, hp, rfl⟩)) N hT FD S h1 h2 hb hlow
  · intro w H s e s' h
    obtain ⟨_, _, _, _, _, _, _, _, _, _, _, _, z⟩ := h
    exact z
end Z


/-! Z21: reckoning with the meaning. -/
namespace Z
open PySem L2
section
variable {C : Calls} {env : En} {M : Sto}
@[simp] theorem ev_var {i : Nat} : evE C (.var i) env M = (match env[i]? with
    | some (some d) => .ok d M
    | _ => .fail) := rfl
@[simp] theorem ev_cst {d : D} : evE C (.cst d) env M = .ok d M := rfl
@[simp] theorem ev_gl {x : String} {d : D} : evE C (.gl x d) env M = .ok d M := rfl
@[simp] theorem ev_bin {op : Bop} {a b : E} : evE C (.bin op a b) env M = (evE C a env M).bind fun x M1 => (evE C b env M1).bind fun y M2 => binD op x y M2 := rfl
@[simp] theorem ev_neg {a : E} : evE C (.neg a) env M = (evE C a env M).bind fun x M1 => (match x with
    | .int i => .ok (.int (-i)) M1
    | _ => .fail) := rfl
@[simp] theorem ev_cmp {op : Cop} {a b : E} : evE C (.cmp op a b) env M = (evE C a env M).bind fun x M1 => (evE C b env M1).bind fun y M2 => (ofO (cmpD M2 op x y) M2).bind fun k M3 => .ok (.bl k) M3 := rfl
@[simp] theorem ev_chain {o1 o2 : Cop} {a b c : E} : evE C (.chain o1 o2 a b c) env M = (evE C a env M).bind fun x M1 => (evE C b env M1).bind fun y M2 => (ofO (cmpD M2 o1 x y) M2).bind fun k M3 =>
      if k then (evE C c env M3).bind fun z M4 => (ofO (cmpD M4 o2 y z) M4).bind fun k2 M5 => .ok (.bl k2) M5 else .ok (.bl false) M3 := rfl
@[simp] theorem ev_isN {g : Bool} {a : E} : evE C (.isN g a) env M = (evE C a env M).bind fun x M1 => .ok (.bl (match x with | .non => !g | _ => g)) M1 := rfl
@[simp] theorem ev_isB {g b : Bool} {a : E} : evE C (.isB g b a) env M = (evE C a env M).bind fun x M1 => .ok (.bl (match x with | .bl c => (c == b) != g | _ => g)) M1 := rfl
@[simp] theorem ev_boo {k : Bool} {es : Es} : evE C (.boo k es) env M = evBoo C k es env M := rfl
@[simp] theorem ev_not {a : E} : evE C (.not a) env M = (evE C a env M).bind fun x M1 => (ofO (asB x) M1).bind fun k M2 => .ok (.bl (!k)) M2 := rfl
@[simp] theorem ev_ite {c a b : E} : evE C (.ite c a b) env M = (evE C c env M).bind fun x M1 => (ofO (asB x) M1).bind fun k M2 => if k then evE C a env M2 else evE C b env M2 := rfl
@[simp] theorem ev_tup {es : Es} : evE C (.tup es) env M = (evEs C es env M).bind fun xs M1 => .ok (.tup xs) M1 := rfl
@[simp] theorem ev_tstar {a b : E} : evE C (.tstar a b) env M = (evE C a env M).bind fun x M1 => (evE C b env M1).bind fun y M2 => starD x y M2 := rfl
@[simp] theorem ev_lst {m : Bool} {es : Es} : evE C (.lst m es) env M = (evEs C es env M).bind fun xs M1 => newList m xs M1 := rfl
@[simp] theorem ev_dic0 : evE C .dic0 env M = .ok (.loc M.length) (M ++ [.dct []]) := rfl
@[simp] theorem ev_idx {a i : E} : evE C (.idx a i) env M = (evE C a env M).bind fun x M1 => (evE C i env M1).bind fun y M2 => ofO (idxD M2 x y) M2 := rfl
@[simp] theorem ev_slc {m : Bool} {a : E} {lo hi : Oe} : evE C (.slc m a lo hi) env M = (evE C a env M).bind fun x M1 => (evO C lo env M1).bind fun l M2 => (evO C hi env M2).bind fun h M3 => slcD m x l h M3 := rfl
@[simp] theorem ev_rev {m : Bool} {a : E} : evE C (.rev m a) env M = (evE C a env M).bind fun x M1 => (match x with
    | .lst xs => newList m xs.reverse M1
    | _ => .fail) := rfl
@[simp] theorem ev_call {f : String} {es : Es} : evE C (.call f es) env M = (evEs C es env M).bind fun xs M1 => C f xs M1 := rfl
@[simp] theorem ev_callk {f : String} {es kes : Es} {ks : List String} {π : List Nat} : evE C (.callk f es ks π kes) env M = (evEs C es env M).bind fun xs M1 => (evEs C kes env M1).bind fun ys M2 => C f (xs ++ permL π ys) M2 := rfl
@[simp] theorem perm_nil {α : Type} {ys : List α} : permL [] ys = ys := rfl
@[simp] theorem ev_bi {b : Bi} {m : Bool} {es : Es} : evE C (.bi b m es) env M = (evEs C es env M).bind fun xs M1 => biD b m xs M1 := rfl
@[simp] theorem ev_isi {a : E} {o : Bool} {ts : List Ty} : evE C (.isi a o ts) env M = (evE C a env M).bind fun x M1 => (ofO (tyOf M1 x) M1).bind fun u M2 => .ok (.bl (ts.any (subTy u))) M2 := rfl
@[simp] theorem ev_mth {f : Mt} {a : E} {es : Es} : evE C (.mth f a es) env M = (evE C a env M).bind fun x M1 => if kindM f M1 x then (evEs C es env M1).bind fun xs M2 => mthD f x xs M2 else .fail := rfl
@[simp] theorem ev_comp {m : Bool} {el : E} {t : Tg} {it : Z.It} {c : Oe} {own : List Nat} : evE C (.comp m el t it c own) env M = (evIt C it env M).bind fun items M1 =>
      (compGo t (fun env M => evC C c env M) (fun env M => evE C el env M) (wipeE env own) items M1).bind fun ys M2 => newList m ys M2 := rfl
@[simp] theorem ev_comp2 {m : Bool} {el : E} {t t1 : Tg} {it it1 : Z.It} {c c1 : Oe} {own own1 : List Nat} : evE C (.comp2 m el t it c t1 it1 c1 own own1) env M = (evIt C it env M).bind fun items M1 => if decide (items.length ≤ 1000) then
      (compGo2 t (fun env M => evC C c env M) (fun env M => evIt C it1 env M) t1 (fun env M => evC C c1 env M) (fun env M => evE C el env M) own1 (wipeE env own) items M1).bind fun ys M2 => newList m ys M2 else .fail := rfl
@[simp] theorem ev_boo1 {k : Bool} {e : E} : evBoo C k (.cons e .nil) env M = evE C e env M := rfl
@[simp] theorem ev_boo2 {k : Bool} {e e2 : E} {r : Es} : evBoo C k (.cons e (.cons e2 r)) env M = (evE C e env M).bind fun x M1 => (ofO (asB x) M1).bind fun b M2 => if b == k then evBoo C k (.cons e2 r) env M2 else .ok (.bl (!k)) M2 := rfl
@[simp] theorem ev_nil : evEs C .nil env M = .ok [] M := rfl
@[simp] theorem ev_cons {e : E} {es : Es} : evEs C (.cons e es) env M = (evE C e env M).bind fun x M1 => (evEs C es env M1).bind fun xs M2 => .ok (x :: xs) M2 := rfl
@[simp] theorem ev_onon : evO C .non env M = .ok none M := rfl
@[simp] theorem ev_osom {e : E} : evO C (.som e) env M = (evE C e env M).bind fun x M1 => (match x with
    | .int i => .ok (some i) M1
    | _ => .fail) := rfl
@[simp] theorem ev_cnon : evC C .non env M = .ok true M := rfl
@[simp] theorem ev_csom {e : E} : evC C (.som e) env M = (evE C e env M).bind fun x M1 => ofO (asB x) M1 := rfl
@[simp] theorem ev_sq {e : E} : evIt C (.sq e) env M = (evE C e env M).bind fun x M1 => ofO (walkD x) M1 := rfl
@[simp] theorem ev_rng {es : Es} : evIt C (.rng es) env M = (evEs C es env M).bind fun xs M1 => (match xs with
    | [.int n] => if fitLen n.natAbs then .ok (rngD 0 n.toNat) M1 else .fail
    | [.int lo, .int hi] => if fitLen lo.natAbs && fitLen hi.natAbs then .ok (rngD lo (hi - lo).toNat) M1 else .fail
    | _ => .fail) := rfl
@[simp] theorem ev_zip {a b : E} : evIt C (.zip a b) env M = (evE C a env M).bind fun x M1 => (evE C b env M1).bind fun y M2 => (match x, y with
    | .lst xs, .lst ys => .ok (zipD xs ys) M2
    | .tup xs, .tup ys => .ok (zipD xs ys) M2
    | _, _ => .fail) := rfl
@[simp] theorem es_ex {e : E} : evS C (.ex e) env M = (evE C e env M).out env fun _ M1 => .ok (.nx env) M1 := rfl
@[simp] theorem es_asg {t : Tg} {e : E} : evS C (.asg t e) env M = (evE C e env M).out env fun x M1 => (match asgD t x env with
    | some env1 => .ok (.nx env1) M1
    | none => .fail) := rfl
@[simp] theorem es_asgIx {a i e : E} : evS C (.asgIx a i e) env M = (evE C e env M).out env fun v M1 => (evE C a env M1).out env fun x M2 => (evE C i env M2).out env fun y M3 => (setIx x y v M3).out env fun _ M4 => .ok (.nx env) M4 := rfl
@[simp] theorem es_aug {i : Nat} {op : Bop} {e : E} : evS C (.aug i op e) env M = (match env[i]? with
    | some (some x) => (evE C e env M).out env fun y M1 => (match x, y with
      | .int p, .int q => (binD op (.int p) (.int q) M1).out env fun z M2 => .ok (.nx (env.set i (some z))) M2
      | _, _ => .fail)
    | _ => .fail) := rfl
@[simp] theorem es_retN : evS C (.ret .non) env M = .ok (.ret .non) M := rfl
@[simp] theorem es_ret {e : E} : evS C (.ret (.som e)) env M = (evE C e env M).out env fun x M1 => .ok (.ret x) M1 := rfl
@[simp] theorem es_iff {c : E} {a b : Ss} : evS C (.iff c a b) env M = (evE C c env M).out env fun x M1 => (match x with
    | .bl true => evSs C a env M1
    | .bl false => evSs C b env M1
    | _ => .fail) := rfl
@[simp] theorem es_whl {c : E} {b : Ss} : evS C (.whl c b) env M = whlGo (fun env M => evE C c env M) (fun env M => evSs C b env M) env M := rfl
@[simp] theorem es_for {t : Tg} {it : Z.It} {b : Ss} : evS C (.for_ t it b) env M = (evIt C it env M).out env fun items M1 => forGo t (fun env M => evSs C b env M) items env M1 := rfl
@[simp] theorem ev_heard {g : String} {h : HF} {e : E} : evE C (.heard g h e) env M = hearD h (evE C e env M) := rfl
@[simp] theorem ev_frz {a : E} : evE C (.frz a) env M = (evE C a env M).bind fun x M1 => frzD x M1 := rfl
@[simp] theorem es_rais {c : String} {es : Es} : evS C (.rais c es) env M = (evEs C es env M).out env fun xs M1 => (match xs with
    | [] => .ok (.exc env c none) M1
    | [d] => .ok (.exc env c (some d)) M1
    | _ => .fail) := rfl
@[simp] theorem es_tr {b : Ss} {i : Nat} {hs : List (String × Str)} : evS C (.tr b i hs) env M = hearS hs (evSs C b env M) := rfl
@[simp] theorem es_nil : evSs C .nil env M = .ok (.nx env) M := rfl
@[simp] theorem es_cons {s : S} {r : Ss} : evSs C (.cons s r) env M = (evS C s env M).next fun env1 M1 => evSs C r env1 M1 := rfl
end
@[simp] theorem newList_f {xs : List D} {M : Sto} : newList false xs M = .ok (.lst xs) M := rfl
@[simp] theorem newList_t {xs : List D} {M : Sto} : newList true xs M = .ok (.loc M.length) (M ++ [.lst xs]) := rfl
@[simp] theorem asB_bl {b : Bool} : asB (.bl b) = some b := rfl
/-! ### values without places -/
mutual
def D.pure : D → Bool
  | .tup xs => D.pures xs
  | .lst xs => D.pures xs
  | .scr _ => false
  | .loc _ => false
  | .pr _ => false
  | _ => true
def D.pures : List D → Bool
  | [] => true
  | x :: xs => D.pure x && D.pures xs
end
mutual
theorem frz_pure {M : Sto} {n : Nat} : ∀ {d : D}, d.pure = true → D.frz M n d = some d
  | .non, _ => by rw [D.frz]; all_goals simp
  | .bl _, _ => by rw [D.frz]; all_goals simp
  | .int _, _ => by rw [D.frz]; all_goals simp
  | .str _, _ => by rw [D.frz]; all_goals simp
  | .tup xs, h => by rw [D.frz, frzs_pure (show D.pures xs = true from h)]; rfl
  | .lst xs, h => by rw [D.frz, frzs_pure (show D.pures xs = true from h)]; rfl
  | .scr _, h => by cases h
  | .loc _, h => by cases h
  | .pr _, h => by cases h
theorem frzs_pure {M : Sto} {n : Nat} : ∀ {d : List D}, D.pures d = true → D.frzs M n d = some d
  | [], _ => by rw [D.frzs]
  | x :: xs, h => by
    have h : (D.pure x && D.pures xs) = true := h
    rw [Bool.and_eq_true] at h
    rw [D.frzs, frz_pure h.1, frzs_pure h.2]; rfl
end
theorem callN_s {T : String → Option Fn} {n : Nat} {g : String} {fn : Fn} {ds : List D} {M : Sto} (hT : T g = some fn) : callN T (n + 1) g ds M = runF (callN T (n - fn.low)) fn ds M := by
  rw [callN]
  simp only [hT]
/-- what a call gives, whatever the store -/
def Calc (C : Calls) (g : String) (ds : List D) (r : D) : Prop := ∀ M, C g ds M = .ok r M
/-- .. which error leaves it -/
def CalcX (C : Calls) (g : String) (ds : List D) (c : String) (p : D) : Prop := ∀ M, C g ds M = .exc c (some p) M
section
variable {T : String → Option Fn} {n : Nat} {g : String} {fn : Fn} {ds : List D}
theorem own_callM {r : D} {M : Sto} (hT : T g = some fn) (ho : fn.own = true) (hl : ds.length = fn.np) (hp : r.pure = true)
    (h : ∃ M', evSs (callN T n) fn.body (ds.map some ++ List.replicate (fn.ns - fn.np) none) M = .ok (.ret r) (M ++ M')) (hz : fn.low = 0 := by rfl) : callN T (n + 1) g ds M = .ok r M := by
  obtain ⟨M', e⟩ := h
  rw [callN_s hT, hz]
  unfold runF
  rw [if_pos hl, Nat.sub_zero, e]
  show back fn.own M r (M ++ M') = _
  unfold back
  rw [if_pos ho, if_pos (by rw [List.take_left]), frz_pure hp]
theorem own_call {r : D} (hT : T g = some fn) (ho : fn.own = true) (hl : ds.length = fn.np) (hp : r.pure = true)
    (h : ∀ M, ∃ M', evSs (callN T n) fn.body (ds.map some ++ List.replicate (fn.ns - fn.np) none) M = .ok (.ret r) (M ++ M')) (hz : fn.low = 0 := by rfl) : Calc (callN T (n + 1)) g ds r := fun M => own_callM hT ho hl hp (h M) hz
theorem own_callN (hT : T g = some fn) (ho : fn.own = true) (hl : ds.length = fn.np)
    (h : ∀ M, ∃ env M', evSs (callN T n) fn.body (ds.map some ++ List.replicate (fn.ns - fn.np) none) M = .ok (.nx env) (M ++ M')) (hz : fn.low = 0 := by rfl) : Calc (callN T (n + 1)) g ds .non := by
  intro M
  obtain ⟨env, M', e⟩ := h M
  rw [callN_s hT, hz]
  unfold runF
  rw [if_pos hl, Nat.sub_zero, e]
  show back fn.own M .non (M ++ M') = _
  unfold back
  rw [if_pos ho, if_pos (by rw [List.take_left]), frz_pure (d := .non) rfl]
theorem own_exc {c : String} {p : D} (hT : T g = some fn) (ho : fn.own = true) (hl : ds.length = fn.np) (hp : p.pure = true)
    (h : ∀ M, ∃ env M', evSs (callN T n) fn.body (ds.map some ++ List.replicate (fn.ns - fn.np) none) M = .ok (.exc env c (some p)) (M ++ M')) (hz : fn.low = 0 := by rfl) : CalcX (callN T (n + 1)) g ds c p := by
  intro M
  obtain ⟨env, M', e⟩ := h M
  rw [callN_s hT, hz]
  unfold runF
  rw [if_pos hl, Nat.sub_zero, e]
  show backX fn.own M c (some p) (M ++ M') = _
  unfold backX
  rw [if_pos ho, if_pos (by rw [List.take_left])]
  dsimp only
  rw [frz_pure hp]
theorem free_call {r : D} {M M' : Sto} (hT : T g = some fn) (ho : fn.own = false) (hl : ds.length = fn.np)
    (h : evSs (callN T n) fn.body (ds.map some ++ List.replicate (fn.ns - fn.np) none) M = .ok (.ret r) M') (hz : fn.low = 0 := by rfl) : callN T (n + 1) g ds M = .ok r M' := by
  rw [callN_s hT, hz]
  unfold runF
  rw [if_pos hl, Nat.sub_zero, h]
  show back fn.own M r M' = _
  unfold back
  rw [ho]; rfl
/-- .. of a def that makes lambdas -/
theorem free_low {r : D} {M M' : Sto} (hT : T g = some fn) (ho : fn.own = false) (hl : ds.length = fn.np) (hz : fn.low = 2)
    (h : evSs (callN T n) fn.body (ds.map some ++ List.replicate (fn.ns - fn.np) none) M = .ok (.ret r) M') : callN T (n + 3) g ds M = .ok r M' := by
  rw [callN_s (n := n + 2) hT, hz]
  unfold runF
  rw [if_pos hl, show n + 2 - 2 = n from rfl, h]
  show back fn.own M r M' = _
  unfold back
  rw [ho]; rfl
end
/-! ### loops -/
theorem comp_pure {t : Tg} {c : En → Sto → Res Bool} {el : En → Sto → Res D} {env : En} {p : D → Bool} {q : D → D} {M : Sto} : ∀ {items : List D}, (∀ d ∈ items, ∃ e, asgD t d env = some e ∧ c e M = .ok (p d) M ∧ (p d = true → el e M = .ok (q d) M)) →
    compGo t c el env items M = .ok ((items.filter p).map q) M
  | [], _ => rfl
  | d :: r, h => by
    obtain ⟨e, h1, h2, h3⟩ := h d List.mem_cons_self
    have ih := comp_pure (items := r) (fun d hd => h d (List.mem_cons_of_mem _ hd))
    unfold compGo
    rw [h1]
    dsimp only
    rw [h2]
    show (if p d = true then ((el e M).calm.bind fun y M2 => (compGo t c el env r M2).bind fun ys M3 => .ok (y :: ys) M3) else compGo t c el env r M) = _
    cases hp : p d with
    | false =>
      rw [if_neg (by decide), ih, List.filter_cons, hp]; rfl
    | true =>
      rw [if_pos rfl, h3 hp]
      show (compGo t c el env r M).bind (fun ys M3 => Res.ok (q d :: ys) M3) = _
      rw [ih, List.filter_cons, hp]; rfl
/-- a for that goes through: a state by the items done -/
theorem for_go {t : Tg} {b : En → Sto → Out} (P : Nat → En → Sto → Prop) {items : List D} (hs : ∀ i d env M, items[i]? = some d → P i env M → ∃ env1 env2 M2, asgD t d env = some env1 ∧ b env1 M = .ok (.nx env2) M2 ∧ P (i + 1) env2 M2) :
    ∀ (k i : Nat) (env : En) (M : Sto), k = items.length - i → i ≤ items.length → P i env M → ∃ env' M', forGo t b (items.drop i) env M = .ok (.nx env') M' ∧ P items.length env' M' := by
  intro k
  induction k with
  | zero =>
    intro i env M hk hi p
    have : i = items.length := by omega
    subst this
    exact ⟨env, M, by rw [List.drop_length]; rfl, p⟩
  | succ k ih =>
    intro i env M hk hi p
    have hlt : i < items.length := by omega
    obtain ⟨env1, env2, M2, h1, h2, h3⟩ := hs i items[i] env M (List.getElem?_eq_getElem hlt) p
    obtain ⟨env', M', h4, h5⟩ := ih (i + 1) env2 M2 (by omega) hlt h3
    refine ⟨env', M', ?_, h5⟩
    rw [List.drop_eq_getElem_cons hlt]
    unfold forGo
    rw [h1]
    dsimp only
    rw [h2]
    exact h4
theorem for_all {t : Tg} {b : En → Sto → Out} (P : Nat → En → Sto → Prop) {items : List D} {env : En} {M : Sto} (h0 : P 0 env M) (hs : ∀ i d env M, items[i]? = some d → P i env M → ∃ env1 env2 M2, asgD t d env = some env1 ∧ b env1 M = .ok (.nx env2) M2 ∧ P (i + 1) env2 M2) :
    ∃ env' M', forGo t b items env M = .ok (.nx env') M' ∧ P items.length env' M' := by
  have h := for_go P hs (items.length - 0) 0 env M rfl (Nat.zero_le _) h0
  rw [List.drop_zero] at h
  exact h
/-- a while, by how often -/
theorem whl_mono {c : En → Sto → Res D} {b : En → Sto → Out} : ∀ {n m : Nat} {env : En} {M : Sto}, n ≤ m → whlN c b n env M ≠ .fail → whlN c b m env M = whlN c b n env M
  | 0, _, _, _, _, h => absurd rfl h
  | n + 1, 0, _, _, h, _ => by omega
  | n + 1, m + 1, env, M, h, hf => by
    unfold whlN at hf ⊢
    cases hc : c env M with
    | fail => rw [hc] at hf; exact absurd rfl hf
    | exc _ _ _ => rfl
    | ok x M1 =>
      rw [hc] at hf
      dsimp only [out_ok] at hf ⊢
      cases x <;> try rfl
      rename_i k
      cases k with
      | false => rfl
      | true =>
        dsimp only at hf ⊢
        cases hb : b env M1 with
        | fail => rfl
        | ok f M2 =>
          rw [hb] at hf
          cases f <;> try rfl
          · exact whl_mono (by omega) hf
          · exact whl_mono (by omega) hf
theorem whl_go {c : En → Sto → Res D} {b : En → Sto → Out} {n : Nat} {env : En} {M : Sto} (h : whlN c b n env M ≠ .fail) : whlGo c b env M = whlN c b n env M := by
  have hx : ∃ n, whlN c b n env M ≠ .fail := ⟨n, h⟩
  unfold whlGo
  rw [dif_pos hx]
  have hc := Classical.choose_spec hx
  by_cases hle : Classical.choose hx ≤ n
  · exact (whl_mono hle hc).symm
  · exact whl_mono (by omega) h
/-! ### operations -/
section
variable {M : Sto} {m : Bool} {xs ys : List D} {i j : Int} {x y : Str} {a b d : D} {env : En}
@[simp] theorem bd_len_tup : biD .len m [.tup xs] M = .ok (.int xs.length) M := rfl
@[simp] theorem bd_len_lst : biD .len m [.lst xs] M = .ok (.int xs.length) M := rfl
@[simp] theorem bd_tuple : biD .tuple m [.lst xs] M = .ok (.tup xs) M := rfl
@[simp] theorem bd_tuple2 : biD .tuple m [.tup xs] M = .ok (.tup xs) M := rfl
@[simp] theorem bd_list : biD .list m [.lst xs] M = newList m xs M := rfl
@[simp] theorem bd_abs : biD .abs m [.int i] M = .ok (.int (if i < 0 then -i else i)) M := rfl
@[simp] theorem bd_int : biD .int m [.int i] M = .ok (.int i) M := rfl
theorem bd_all {bs : List Bool} (h : boolsD xs = some bs) : biD .all m [.lst xs] M = .ok (.bl (bs.all id)) M := by show (ofO (boolsD xs) M).bind _ = _; rw [h]; rfl
theorem bd_any {bs : List Bool} (h : boolsD xs = some bs) : biD .any m [.lst xs] M = .ok (.bl (bs.any id)) M := by show (ofO (boolsD xs) M).bind _ = _; rw [h]; rfl
theorem bd_sum {bs : List Int} (h : intsD xs = some bs) : biD .sum m [.lst xs] M = .ok (.int bs.sum) M := by show (ofO (intsD xs) M).bind _ = _; rw [h]; rfl
theorem bools_true {α : Type} : ∀ (l : List α), boolsD (l.map fun _ => D.bl true) = some (l.map fun _ => true)
  | [] => rfl
  | _ :: r => by rw [List.map_cons, boolsD, bools_true r]; rfl
theorem ints_map {α : Type} {f : α → Int} : ∀ (l : List α), intsD (l.map fun x => D.int (f x)) = some (l.map f)
  | [] => rfl
  | _ :: r => by rw [List.map_cons, intsD, ints_map r]; rfl
theorem strs_map {α : Type} {f : α → Str} : ∀ (l : List α), strsD (l.map fun x => D.str (f x)) = some (l.map f)
  | [] => rfl
  | _ :: r => by rw [List.map_cons, strsD, strs_map r]; rfl
/-- all of them True -/
theorem bd_all_true {α : Type} {l : List α} : biD .all m [.lst (l.map fun _ => D.bl true)] M = .ok (.bl true) M := by
  rw [bd_all (bools_true l)]
  congr 2
  rw [List.all_eq_true]
  intro b hb
  obtain ⟨_, _, rfl⟩ := List.mem_map.mp hb
  rfl
@[simp] theorem cm_lt : cmpD M .lt (.int i) (.int j) = some (decide (i < j)) := rfl
@[simp] theorem cm_le : cmpD M .le (.int i) (.int j) = some (decide (i ≤ j)) := rfl
@[simp] theorem cm_gt : cmpD M .gt (.int i) (.int j) = some (decide (j < i)) := rfl
@[simp] theorem cm_ge : cmpD M .ge (.int i) (.int j) = some (decide (j ≤ i)) := rfl
@[simp] theorem cm_ltS : cmpD M .lt (.str x) (.str y) = some (ltStr x y) := rfl
@[simp] theorem cm_eq : cmpD M .eq a b = eqD M a b := rfl
@[simp] theorem cm_ne : cmpD M .ne a b = (eqD M a b).map (!·) := rfl
@[simp] theorem cm_in : cmpD M .inn a b = inD M a b := rfl
@[simp] theorem cm_nin : cmpD M .nin a b = (inD M a b).map (!·) := rfl
@[simp] theorem eq_int : eqD M (.int i) (.int j) = some (decide (i = j)) := rfl
@[simp] theorem eq_str : eqD M (.str x) (.str y) = some (x == y) := rfl
@[simp] theorem eq_bl {p q : Bool} : eqD M (.bl p) (.bl q) = some (p == q) := rfl
@[simp] theorem ty_int : tyOf M (.int i) = some .int := rfl
@[simp] theorem ty_bl {p : Bool} : tyOf M (.bl p) = some .bool := rfl
@[simp] theorem ty_str : tyOf M (.str x) = some .str := rfl
@[simp] theorem ty_tup : tyOf M (.tup xs) = some .tup := rfl
@[simp] theorem ty_lst : tyOf M (.lst xs) = some .lst := rfl
@[simp] theorem ty_non : tyOf M .non = some .non := rfl
@[simp] theorem sub_def {u t : Ty} : subTy u t = (u == t || (u == .bool && t == .int)) := rfl
@[simp] theorem ty_int_bool : (Ty.int == Ty.bool) = false := rfl
@[simp] theorem ty_int_str : (Ty.int == Ty.str) = false := rfl
@[simp] theorem ty_int_tup : (Ty.int == Ty.tup) = false := rfl
@[simp] theorem ty_int_lst : (Ty.int == Ty.lst) = false := rfl
@[simp] theorem ty_int_non : (Ty.int == Ty.non) = false := rfl
@[simp] theorem ty_int_dct : (Ty.int == Ty.dct) = false := rfl
@[simp] theorem ty_bool_int : (Ty.bool == Ty.int) = false := rfl
@[simp] theorem ty_bool_str : (Ty.bool == Ty.str) = false := rfl
@[simp] theorem ty_bool_tup : (Ty.bool == Ty.tup) = false := rfl
@[simp] theorem ty_bool_lst : (Ty.bool == Ty.lst) = false := rfl
@[simp] theorem ty_bool_non : (Ty.bool == Ty.non) = false := rfl
@[simp] theorem ty_bool_dct : (Ty.bool == Ty.dct) = false := rfl
@[simp] theorem ty_str_int : (Ty.str == Ty.int) = false := rfl
@[simp] theorem ty_str_bool : (Ty.str == Ty.bool) = false := rfl
@[simp] theorem ty_str_tup : (Ty.str == Ty.tup) = false := rfl
@[simp] theorem ty_str_lst : (Ty.str == Ty.lst) = false := rfl
@[simp] theorem ty_str_non : (Ty.str == Ty.non) = false := rfl
@[simp] theorem ty_str_dct : (Ty.str == Ty.dct) = false := rfl
@[simp] theorem ty_tup_int : (Ty.tup == Ty.int) = false := rfl
@[simp] theorem ty_tup_bool : (Ty.tup == Ty.bool) = false := rfl
@[simp] theorem ty_tup_str : (Ty.tup == Ty.str) = false := rfl
@[simp] theorem ty_tup_lst : (Ty.tup == Ty.lst) = false := rfl
@[simp] theorem ty_tup_non : (Ty.tup == Ty.non) = false := rfl
@[simp] theorem ty_tup_dct : (Ty.tup == Ty.dct) = false := rfl
@[simp] theorem ty_lst_int : (Ty.lst == Ty.int) = false := rfl
@[simp] theorem ty_lst_bool : (Ty.lst == Ty.bool) = false := rfl
@[simp] theorem ty_lst_str : (Ty.lst == Ty.str) = false := rfl
@[simp] theorem ty_lst_tup : (Ty.lst == Ty.tup) = false := rfl
@[simp] theorem ty_lst_non : (Ty.lst == Ty.non) = false := rfl
@[simp] theorem ty_lst_dct : (Ty.lst == Ty.dct) = false := rfl
@[simp] theorem ty_non_int : (Ty.non == Ty.int) = false := rfl
@[simp] theorem ty_non_bool : (Ty.non == Ty.bool) = false := rfl
@[simp] theorem ty_non_str : (Ty.non == Ty.str) = false := rfl
@[simp] theorem ty_non_tup : (Ty.non == Ty.tup) = false := rfl
@[simp] theorem ty_non_lst : (Ty.non == Ty.lst) = false := rfl
@[simp] theorem ty_non_dct : (Ty.non == Ty.dct) = false := rfl
@[simp] theorem ty_dct_int : (Ty.dct == Ty.int) = false := rfl
@[simp] theorem ty_dct_bool : (Ty.dct == Ty.bool) = false := rfl
@[simp] theorem ty_dct_str : (Ty.dct == Ty.str) = false := rfl
@[simp] theorem ty_dct_tup : (Ty.dct == Ty.tup) = false := rfl
@[simp] theorem ty_dct_lst : (Ty.dct == Ty.lst) = false := rfl
@[simp] theorem ty_dct_non : (Ty.dct == Ty.non) = false := rfl
@[simp] theorem ix_tup : idxD M (.tup xs) (.int i) = itemAt xs i := rfl
@[simp] theorem ix_lst : idxD M (.lst xs) (.int i) = itemAt xs i := rfl
@[simp] theorem it_0 {α : Type} {a : α} {r : List α} : itemAt (a :: r) 0 = some a := by
  have h : ixN (r.length + 1) 0 = some 0 := by unfold ixN; rw [if_pos (by omega), if_pos (by omega)]; rfl
  show (ixN (a :: r).length 0).bind _ = _
  rw [List.length_cons, h]; rfl
@[simp] theorem it_1 {α : Type} {a b : α} {r : List α} : itemAt (a :: b :: r) 1 = some b := by
  have h : ixN (r.length + 1 + 1) 1 = some 1 := by unfold ixN; rw [if_pos (by omega), if_pos (by omega)]; rfl
  show (ixN (a :: b :: r).length 1).bind _ = _
  rw [List.length_cons, List.length_cons, h]; rfl
theorem it_last {α : Type} {l : List α} {a : α} : itemAt (l ++ [a]) (-1) = some a := by
  show (ixN (l ++ [a]).length (-1)).bind _ = _
  have h : ixN (l ++ [a]).length (-1) = some l.length := by
    rw [List.length_append]
    unfold ixN
    rw [if_neg (by omega), if_pos (by simp; omega)]
    simp
    omega
  rw [h]
  show (l ++ [a])[l.length]? = _
  simp
@[simp] theorem wk_tup : walkD (.tup xs) = some xs := rfl
@[simp] theorem wk_lst : walkD (.lst xs) = some xs := rfl
@[simp] theorem wk_scr : walkD (.scr xs) = some xs := rfl
@[simp] theorem ag_n {k : Nat} : asgD (.n k) d env = some (env.set k (some d)) := rfl
@[simp] theorem ag_t {is : List Nat} : asgD (.t is) (.tup xs) env = asgN is xs env := rfl
@[simp] theorem ag_p {is : List Nat} : asgD (.t is) (.pr xs) env = asgN is xs env := rfl
@[simp] theorem ag_nil : asgN [] [] env = some env := rfl
@[simp] theorem ag_cons {k : Nat} {is : List Nat} : asgN (k :: is) (d :: xs) env = asgN is xs (env.set k (some d)) := rfl
@[simp] theorem wp_nil : wipeE env [] = env := rfl
@[simp] theorem wp_cons {k : Nat} {is : List Nat} : wipeE env (k :: is) = (wipeE env is).set k none := rfl
@[simp] theorem bn_add : binD .add (.int i) (.int j) M = .ok (.int (i + j)) M := rfl
@[simp] theorem bn_sub : binD .sub (.int i) (.int j) M = .ok (.int (i - j)) M := rfl
theorem bn_mul (h : mulOk i j = true) : binD .mul (.int i) (.int j) M = .ok (.int (i * j)) M := by show (if mulOk i j then _ else _) = _; rw [if_pos h]
theorem bn_div (h : divOk j = true) : binD .fdiv (.int i) (.int j) M = .ok (.int (i / j)) M := by show (if divOk j then _ else _) = _; rw [if_pos h]
theorem bn_mod (h : 0 < j) : binD .mod (.int i) (.int j) M = .ok (.int (i % j)) M := by show (if decide (0 < j) then _ else _) = _; rw [if_pos (decide_eq_true h)]
theorem bn_cat (h : fitLen (xs.length + ys.length) = true) : binD .add (.lst xs) (.lst ys) M = .ok (.lst (xs ++ ys)) M := by show (if fitLen _ then _ else _) = _; rw [if_pos h]
theorem bn_catT (h : fitLen (xs.length + ys.length) = true) : binD .add (.tup xs) (.tup ys) M = .ok (.tup (xs ++ ys)) M := by show (if fitLen _ then _ else _) = _; rw [if_pos h]
theorem bn_repT (h : 0 < xs.length ∧ 1 ≤ j ∧ xs.length * j.toNat ≤ 1000000) : binD .mul (.tup xs) (.int j) M = .ok (.tup (List.replicate j.toNat xs).flatten) M := by show (if decide (0 < xs.length ∧ 1 ≤ j ∧ xs.length * j.toNat ≤ 1000000) = true then _ else _) = _; rw [if_pos (decide_eq_true h)]
theorem st_lst (h : fitLen (xs.length + 1) = true) : starD d (.lst xs) M = .ok (.tup (d :: xs)) M := by show (if fitLen _ then _ else _) = _; rw [if_pos h]
theorem st_tup (h : fitLen (xs.length + 1) = true) : starD d (.tup xs) M = .ok (.tup (d :: xs)) M := by show (if fitLen _ then _ else _) = _; rw [if_pos h]
theorem sl_tup {lo hi : Option Int} : slcD m (.tup xs) lo hi M = .ok (.tup (cut xs lo hi)) M := rfl
theorem cut_from {α : Type} {l : List α} {k : Nat} : cut l (some (k : Int)) none = l.drop k := by
  unfold cut
  rw [HT.sIx_nat, HT.sIx_none]
  by_cases h : k ≤ l.length
  · rw [Nat.min_eq_left h]
    exact List.take_of_length_le (by rw [List.length_drop]; omega)
  · rw [Nat.min_eq_right (by omega), List.drop_eq_nil_of_le (by omega), List.drop_eq_nil_of_le (by omega), List.take_nil]
theorem cut_to {α : Type} {l : List α} {k : Nat} : cut l none (some (k : Int)) = l.take k := by
  unfold cut
  rw [HT.sIx_nat, HT.sIx_none, List.drop_zero, Nat.sub_zero]
  by_cases h : k ≤ l.length
  · rw [Nat.min_eq_left h]
  · rw [Nat.min_eq_right (by omega), List.take_of_length_le (by omega), List.take_of_length_le (by omega)]
end
/-! ### what changes -/
section
variable {M : Sto} {n : Nat} {xs ys : List D} {kvs : List (Key × D)} {d v : D} {x : Str} {i : Int}
theorem kd_get (h : M[n]? = some (.dct kvs)) : kindM .get M (.loc n) = true := by simp only [kindM, h]
theorem kd_append (h : M[n]? = some (.lst xs)) : kindM .append M (.loc n) = true := by simp only [kindM, h]
theorem kd_pop (h : M[n]? = some (.lst xs)) : kindM .pop M (.loc n) = true := by simp only [kindM, h]
theorem md_get (h : M[n]? = some (.dct kvs)) : mthD .get (.loc n) [.str x, d] M = .ok ((getK kvs (Sum.inr x)).getD d) M := by simp only [mthD, h]
theorem md_append (h : M[n]? = some (.lst xs)) (hl : xs.length ≤ 1000000) : mthD .append (.loc n) [d] M = .ok .non (M.set n (.lst (xs ++ [d]))) := by
  have hf : fitLen xs.length = true := decide_eq_true hl
  simp only [mthD, h]
  rw [if_pos hf]
theorem md_pop (h : M[n]? = some (.lst (xs ++ [d]))) : mthD .pop (.loc n) [] M = .ok d (M.set n (.lst xs)) := by
  simp only [mthD, h]
  rw [List.getLast?_append]
  simp
theorem frz_at (h : M[n]? = some (.lst xs)) : frzD (.loc n) M = .ok (.lst xs) (M.set n .dead) := by simp only [frzD, h]
theorem kd_popAt (h : M[n]? = some (.lst xs)) : kindM .popAt M (.loc n) = true := by simp only [kindM, h]
theorem kd_extend (h : M[n]? = some (.lst xs)) : kindM .extend M (.loc n) = true := by simp only [kindM, h]
theorem md_extend (h : M[n]? = some (.lst xs)) (hl : xs.length + ys.length ≤ 1000000) : mthD .extend (.loc n) [.lst ys] M = .ok .non (M.set n (.lst (xs ++ ys))) := by
  have hf : fitLen (xs.length + ys.length) = true := decide_eq_true hl
  simp only [mthD, h]
  rw [if_pos hf]
theorem md_popAt {k : Nat} (h : M[n]? = some (.lst xs)) (hk : xs[k]? = some d) (hl : xs.length ≤ 1000000) : mthD .popAt (.loc n) [.int k] M = .ok d (M.set n (.lst (xs.eraseIdx k))) := by
  obtain ⟨h1, _⟩ := List.getElem?_eq_some_iff.mp hk
  have hd : decide ((0 : Int) ≤ (k : Int) ∧ (k : Int) < xs.length ∧ xs.length ≤ 1000000) = true := decide_eq_true ⟨by omega, by omega, hl⟩
  simp only [mthD, h]
  rw [if_pos hd]
  simp [hk]
theorem si_dct (h : M[n]? = some (.dct kvs)) (hl : kvs.length ≤ 1000000) : setIx (.loc n) (.str x) v M = .ok () (M.set n (.dct (putD (Sum.inr x) v kvs))) := by
  have hf : fitLen kvs.length = true := decide_eq_true hl
  simp only [setIx, h]
  rw [if_pos hf]
theorem si_lst (h : M[n]? = some (.lst xs)) (hi : 0 ≤ i ∧ i < xs.length) : setIx (.loc n) (.int i) v M = .ok () (M.set n (.lst (xs.set i.toNat v))) := by
  simp only [setIx, h]
  rw [if_pos (decide_eq_true hi)]
theorem ix_loc (h : M[n]? = some (.lst xs)) : idxD M (.loc n) (.int i) = itemAt xs i := by simp only [idxD, h]
theorem ix_dct (h : M[n]? = some (.dct kvs)) : idxD M (.loc n) (.str x) = getK kvs (Sum.inr x) := by simp only [idxD, h]
theorem in_dct (h : M[n]? = some (.dct kvs)) : inD M (.str x) (.loc n) = some (kvs.any fun kv => decide (kv.1 = Sum.inr x)) := by simp only [inD, h]
theorem bd_list_dct {m : Bool} (h : M[n]? = some (.dct kvs)) : biD .list m [.loc n] M = newList m (kvs.map fun kv => keyD kv.1) M := by simp only [biD, h]
theorem bd_sorted_dct {m : Bool} {bs : List Str} (h : M[n]? = some (.dct kvs)) (hb : strsD (kvs.map fun kv => keyD kv.1) = some bs) (hl : bs.length ≤ 1000000) : biD .sorted m [.loc n] M = newList m ((sortStr bs).map .str) M := by
  simp only [biD, h, hb, ofO_some, bind_ok]
  have hf : fitLen bs.length = true := decide_eq_true hl
  rw [if_pos hf]
theorem bd_sorted {m : Bool} {bs : List Str} (hl : bs.length ≤ 1000000) : biD .sorted m [.lst (bs.map .str)] M = newList m ((sortStr bs).map .str) M := by
  have hb : strsD (bs.map D.str) = some bs := by have := strs_map (f := fun x => x) bs; simpa using this
  simp only [biD, hb, ofO_some, bind_ok]
  have hf : fitLen bs.length = true := decide_eq_true hl
  rw [if_pos hf]
theorem bd_sset {m : Bool} {bs : List Str} (hl : bs.length < 2000) : biD .sset m [.lst (bs.map .str)] M = newList m ((sortStr (dedupStr bs)).map .str) M := by
  have hb : strsD (bs.map D.str) = some bs := by have := strs_map (f := fun x => x) bs; simpa using this
  simp only [biD, hb, ofO_some, bind_ok]
  rw [if_pos hl]
theorem bd_dict {m : Bool} (h : pairsK xs = some kvs) : biD .dict m [.tup xs] M = .ok (.loc M.length) (M ++ [.dct (kvs.foldl (fun a kv => putD kv.1 kv.2 a) [])]) := by
  simp only [biD, asSeq, h, ofO_some, bind_ok]
theorem at_last {o : MO} : (M ++ [o])[M.length]? = some o := by simp
theorem set_last {o u : MO} : (M ++ [o]).set M.length u = M ++ [u] := by simp
end
end Z


/-! Z22: module names that hold tuples: looked at in the head. -/
namespace Z
open PySem L2 PySem.Spec PyProof.Rows
mutual
/-- does a value of the module's heap stand for d? so deep at most -/
def gdB (K : PySem.W.Frag) : D → Value → Bool
  | .non, .none => true
  | .bl b, .bool c => b == c
  | .int i, .int j _ => decide (i = j)
  | .str x, .str y _ => decide (x = y)
  | .tup xs, .ref a => (match K.lookup a with
    | some ⟨.type c, none, .seq its _, _⟩ => decide (c = "tuple") && decide (its.size ≤ sizeLine) && gdsB K xs its.toList
    | _ => false)
  | _, _ => false
def gdsB (K : PySem.W.Frag) : List D → List Value → Bool
  | [], [] => true
  | x :: xs, u :: us => gdB K x u && gdsB K xs us
  | _, _ => false
end
mutual
theorem gd_ok {K : PySem.W.Frag} : ∀ {d : D} {u : Value}, gdB K d u = true → ∃ v, RelV v u ∧ ∀ H al ρ, RD K H al ρ d v
  | .non, u, h => by
    cases u <;> unfold gdB at h <;> first | exact ⟨.non, rfl, fun _ _ _ => .non⟩ | cases h
  | .bl b, u, h => by
    cases u <;> unfold gdB at h <;> try (cases h; done)
    rw [eq_of_beq h]
    exact ⟨.bl _, rfl, fun _ _ _ => .bl _⟩
  | .int b, u, h => by
    cases u <;> unfold gdB at h <;> try (cases h; done)
    rw [of_decide_eq_true h]
    exact ⟨.int _, ⟨_, rfl⟩, fun _ _ _ => .int _⟩
  | .str b, u, h => by
    cases u <;> unfold gdB at h <;> try (cases h; done)
    rw [of_decide_eq_true h]
    exact ⟨.str _, ⟨_, rfl⟩, fun _ _ _ => .str _⟩
  | .tup xs, u, h => by
    cases u <;> unfold gdB at h <;> try (cases h; done)
    split at h <;> try (cases h; done)
    rename_i a o c its n sl e
    simp only [Bool.and_eq_true, decide_eq_true_eq] at h
    obtain ⟨⟨h1, h2⟩, h3⟩ := h
    obtain ⟨vs, r, q⟩ := gds_ok h3
    subst h1
    exact ⟨.ref a, rfl, fun H al ρ => .tupK e ⟨rfl, rfl⟩ rfl h2 r (by rw [r.length, Array.length_toList]; exact h2) (q H al ρ)⟩
  | .lst _, u, h => by cases u <;> unfold gdB at h <;> cases h
  | .scr _, u, h => by cases u <;> unfold gdB at h <;> cases h
  | .loc _, u, h => by cases u <;> unfold gdB at h <;> cases h
  | .pr _, u, h => by cases u <;> unfold gdB at h <;> cases h
theorem gds_ok {K : PySem.W.Frag} : ∀ {ds : List D} {us : List Value}, gdsB K ds us = true → ∃ vs, Vals vs us ∧ ∀ H al ρ, RDs K H al ρ ds vs
  | [], [], _ => ⟨[], .nil, fun _ _ _ => .nil⟩
  | [], _ :: _, h => by unfold gdsB at h; cases h
  | _ :: _, [], h => by unfold gdsB at h; cases h
  | d :: ds, u :: us, h => by
    unfold gdsB at h
    rw [Bool.and_eq_true] at h
    obtain ⟨v, r, q⟩ := gd_ok h.1
    obtain ⟨vs, rs, qs⟩ := gds_ok h.2
    exact ⟨v :: vs, .cons r rs, fun H al ρ => .cons (q H al ρ) (qs H al ρ)⟩
end
/-- a module name and the tuple that it holds -/
abbrev GT : Type := String × D
def gtB (K : PySem.W.Frag) (g : GT) : Bool := match PySem.W.nsIn K mainGlobals (Str.ofString g.1) with
  | some (some u) => gdB K g.2 u
  | _ => false
theorem gt_ok {K : PySem.W.Frag} {h : Heap} {mg : Str → Option Value} {g : GT} (X : K.In h) (G : h.Ns mainGlobals mg) (c : gtB K g = true) : ∃ v u, mg (Str.ofString g.1) = some u ∧ RelV v u ∧ ∀ H al ρ, RD K H al ρ g.2 v := by
  unfold gtB at c
  split at c <;> try (cases c; done)
  rename_i u e
  obtain ⟨v, r, q⟩ := gd_ok c
  exact ⟨v, u, PySem.W.mg_of X G e, r, q⟩
/-! ### classes of errors -/
def initFdB (file : Str) (K : PySem.W.Frag) (C : Addr) (fd : FuncData) : Bool :=
  decide (fd.name = "__init__") && decide (fd.globals = mainGlobals) && decide (fd.builtins = builtinsNs) && (match fd.defaults with
    | .none => true
    | _ => false) && (match fd.body with
    | .stmts b => initB b
    | _ => false) && initP fd.params && initSc fd.scope && PySem.W.codeIn K fd.code fd.qualname && (match fd.closure with
    | [(x, cc)] => decide (x = "__class__") && (match K.lookup cc with
      | some ⟨_, _, .cell (some (.ref D)), _⟩ => decide (D = C)
      | _ => false)
    | _ => false) && (match fd.code with
    | .ref cda => (match K.lookup cda with
      | some ⟨_, _, .fields vs, _⟩ => (match (vs[2]? : Option Value) with
        | some (.str f _) => file == f
        | _ => false)
      | _ => false)
    | _ => false)
def clsB (K : PySem.W.Frag) (C : Addr) : Bool := match K.lookup C with
  | some ⟨.type t, _, .cls cd, sl⟩ => decide (t = "type") && (match cd.mro, sl.toList with
    | .ref C' :: bm, [_, _, _, _, some (.builtin n), _] => decide (C' = C) && decide (n = "ValueError.__new__") && cd.hasDict && !cd.hasDel && HandSPX.refsVE bm
    | _, _ => false)
  | _ => false
def xcB (file : Str) (K : PySem.W.Frag) (c : String) : Bool :=
  He.eqO (PySem.W.nsIn K mainGlobals (Str.ofString c)) (some (some (.ref (He.ga K (Str.ofString c))))) && clsB K (He.ga K (Str.ofString c)) &&
  He.eqO (PySem.W.findIn K (.ref (He.ga K (Str.ofString c))) "__setattr__") (some (some (.builtin "object.__setattr__"))) && decide (PySem.W.subIn K (.ref (He.ga K (Str.ofString c))) (.type "BaseException") = some true) && decide (PySem.W.typeIn K (.ref (He.ga K (Str.ofString c))) = some (.type "type")) &&
  PySem.W.keepIn K (.ref (He.ga K (Str.ofString c))) && xfB K (He.ga K (Str.ofString c)) && He.eqO (PySem.W.findIn K (.ref (He.ga K (Str.ofString c))) "at") (some none) &&
  He.eqO (PySem.W.findIn K (.ref (He.ga K (Str.ofString c))) "__init__") (some (some (.ref (He.ma K (He.ga K (Str.ofString c)) "__init__")))) && decide (PySem.W.typeIn K (.ref (He.ma K (He.ga K (Str.ofString c)) "__init__")) = some (.type "function")) &&
  (match K.lookup (He.ma K (He.ga K (Str.ofString c)) "__init__") with
    | some ⟨_, _, .func fd, _⟩ => initFdB file K (He.ga K (Str.ofString c)) fd
    | _ => false) &&
  He.eqO (PySem.W.ks_superIn K (He.ga K (Str.ofString c)) (He.ga K (Str.ofString c)) "__init__") (some (some (.builtin "ValueError.__init__"))) && decide (PySem.W.mroIn K (He.ga K (Str.ofString c)) (.ref (He.ga K (Str.ofString c))) = some true) &&
  decide (PySem.W.subIn K (.ref (He.ga K (Str.ofString c))) (.type "ValueError") = some true) && He.eqO (PySem.W.nsIn K cStatics "thirdparty.any") (some none)
theorem xcB_ok {P : Program} {K : PySem.W.Frag} {c : String} {h : Heap} {mg : Str → Option Value} (X : K.In h) (G : h.Ns mainGlobals mg) (top : (P.main.scope.names.lookup ("super" : Str)).isSome = false) (b : xcB P.main.file K c = true) :
    XcK P K (He.ga K (Str.ofString c)) ∧ mg (Str.ofString c) = some (.ref (He.ga K (Str.ofString c))) := by
  unfold xcB at b
  generalize He.ga K (Str.ofString c) = C at b ⊢
  simp only [Bool.and_eq_true, decide_eq_true_eq] at b
  obtain ⟨⟨⟨⟨⟨⟨⟨⟨⟨⟨⟨⟨⟨⟨b1, b2⟩, b3⟩, b4⟩, b5⟩, b6⟩, b7⟩, b8⟩, b9⟩, b10⟩, b11⟩, b12⟩, b13⟩, b14⟩, b15⟩ := b
  refine ⟨⟨⟨?_, He.eqO_ok b3, b4, b5, b6⟩, xfB_ok b7, He.eqO_ok b8, ?_, He.eqO_ok b12, b13, b14, He.eqO_ok b15, top⟩, PySem.W.mg_of X G (He.eqO_ok b1)⟩
  · unfold clsB at b2
    split at b2 <;> try (cases b2; done)
    rename_i t dd cd sl ho
    rw [Bool.and_eq_true, decide_eq_true_eq] at b2
    obtain ⟨rfl, b2⟩ := b2
    split at b2 <;> try (cases b2; done)
    rename_i C' bm k0 k1 k2 k3 n k5 hm hs
    simp only [Bool.and_eq_true, decide_eq_true_eq, Bool.not_eq_true'] at b2
    obtain ⟨⟨⟨⟨rfl, rfl⟩, hdict⟩, hdel⟩, hr⟩ := b2
    obtain ⟨nm, bs, mro, ns, qn, hd, sn, sub, ab, col, del⟩ := cd
    dsimp only at hm hdel hdict
    subst hm hdel hdict
    have hsl : sl = #[k0, k1, k2, k3, some (.builtin "ValueError.__new__"), k5] := by
      obtain ⟨l⟩ := sl
      simp only at hs
      rw [hs]
    subst hsl
    exact ⟨nm, qn, ns, bs, bm, sn, sub, ab, col, dd, k0, k1, k2, k3, k5, ho, hr⟩
  · generalize He.ma K C "__init__" = fI at b9 b10 b11
    split at b11 <;> try (cases b11; done)
    rename_i oc od fd osl ho
    obtain ⟨n1, n2, n3, n4, n5, n6, n7, n8, n9, n10, n11, n12, n13, n14, n15⟩ := fd
    unfold initFdB at b11
    simp only [Bool.and_eq_true, decide_eq_true_eq] at b11
    obtain ⟨⟨⟨⟨⟨⟨⟨⟨⟨c1, c2⟩, c3⟩, c4⟩, c5⟩, c6⟩, c7⟩, c8⟩, c9⟩, c10⟩ := b11
    subst c1 c2 c3
    split at c4 <;> try (cases c4; done)
    split at c5 <;> try (cases c5; done)
    split at c9 <;> try (cases c9; done)
    split at c10 <;> try (cases c10; done)
    rename_i body _ x cc _ cda
    rw [Bool.and_eq_true, decide_eq_true_eq] at c9
    obtain ⟨rfl, c9⟩ := c9
    split at c9 <;> try (cases c9; done)
    rename_i cl dd D sl e1
    split at c10 <;> try (cases c10; done)
    rename_i cl2 dd2 vs sl2 e2
    split at c10 <;> try (cases c10; done)
    rename_i file' tf e3
    have c9 := of_decide_eq_true c9
    subst c9
    exact ⟨fI, cda, cc, n2, n3, body, n5, n9, n10, n11, n14, oc, n12, od, osl, He.eqO_ok b9, b10, ho, c8, c5, c6, c7, ⟨cl2, dd2, vs, sl2, file', tf, e2, e3, c10⟩, ⟨cl, dd, sl, e1⟩⟩
/-! ### tables of code objects -/
def codeB (K : PySem.W.Frag) (c P : Addr) : Bool := match K.lookup c with
  | some ⟨.type t, _, .fields vs, _⟩ => decide (t = "code") && (match (vs[11]? : Option Value) with
      | some (.ref Q) => decide (Q = P)
      | _ => false) && (match vs.getD 18 .none with
      | .str _ _ => true
      | _ => false) && (match vs.getD 7 .none with
      | .int _ _ => true
      | _ => false) && (match vs.getD 9 .none with
      | .bool _ => true
      | _ => false) && (match vs.getD 10 .none with
      | .int _ _ => true
      | _ => false) && decide (c ≠ P)
  | _ => false
theorem codeB_ok {K : PySem.W.Frag} {c P : Addr} {h : Heap} (X : K.In h) (b : codeB K c P = true) : PySem.W.CodeHd h c P := by
  unfold codeB at b
  split at b <;> try (cases b; done)
  rename_i t dd vs sl ho
  simp only [Bool.and_eq_true, decide_eq_true_eq] at b
  obtain ⟨⟨⟨⟨⟨⟨rfl, b1⟩, b2⟩, b3⟩, b4⟩, b5⟩, b6⟩ := b
  split at b1 <;> try (cases b1; done)
  split at b2 <;> try (cases b2; done)
  split at b3 <;> try (cases b3; done)
  split at b4 <;> try (cases b4; done)
  split at b5 <;> try (cases b5; done)
  rename_i Q e1 _ file tf e2 _ fl tg e3 _ inF e4 _ tx tt e5
  have b1 := of_decide_eq_true b1
  subst b1
  refine ⟨_, vs, file, tf, fl, tg, inF, tx, tt, X _ _ ho, rfl, rfl, e1, ?_, e2, e3, e4, e5, b6⟩
  rw [Array.getD_eq_getD_getElem?, e1]; rfl
def tabO (KB : PySem.W.Frag) (P : Addr) : Bool := match KB.lookup P with
  | some ⟨.none, none, .fields vs, sl⟩ => decide (vs.size = 0) && decide (sl.size = 0)
  | _ => false
theorem tabO_ok {KB : PySem.W.Frag} {P : Addr} {h : Heap} (X : KB.In h) (b : tabO KB P = true) : h.get? P = some { cls := .none, data := .fields #[] } := by
  unfold tabO at b
  split at b <;> try (cases b; done)
  rename_i vs sl ho
  rw [Bool.and_eq_true, decide_eq_true_eq, decide_eq_true_eq] at b
  have e1 : vs = #[] := Array.eq_empty_of_size_eq_zero b.1
  have e2 : sl = #[] := Array.eq_empty_of_size_eq_zero b.2
  subst e1 e2
  exact X _ _ ho
def tabsB (KB K : PySem.W.Frag) : Bool := (csK K).all (fun p => tabO KB p.2.1 && (K.lookup p.2.1).isNone && codeB K p.1 p.2.1) && (tbK K).all fun p => (tbK K).all fun q => !decide (p.1 = q.1) || decide (p.2 = q.2)
/-- the lambdas of a global def -/
def lamB (K : PySem.W.Frag) (x : Str) : Bool := (csK K).any fun p => match K.lookup (He.ga K x) with
  | some ⟨_, _, .func fd, _⟩ => (match fd.code with
    | .ref c => decide (p.1 = c) && decide (p.2.2 = (x ++ (".<locals>." : Str)) ++ ("<lambda>" : Str))
    | _ => false)
  | _ => false
theorem lamB_ok {K : PySem.W.Frag} {x : Str} {qual : Str} {params : Arguments} {body : List Stmt} {scope : Scope} {dvs : List V} {kws : List (Str × V)} {fd : FuncData} (F : FunD K x qual params body scope dvs kws (He.ga K x) fd) (b : lamB K x = true) : ∃ c P, fd.code = .ref c ∧ (c, P, (x ++ (".<locals>." : Str)) ++ ("<lambda>" : Str)) ∈ csK K := by
  obtain ⟨oc, od, dV, kV, doc, pm, an, cdv, ct, osl, rfl, lk, h4, h5⟩ := F.ex
  clear h4 h5
  unfold lamB at b
  rw [List.any_eq_true] at b
  obtain ⟨p, hp, b⟩ := b
  rw [lk] at b
  dsimp only at b
  split at b <;> try (cases b; done)
  rename_i c
  rw [Bool.and_eq_true, decide_eq_true_eq, decide_eq_true_eq] at b
  obtain ⟨p1, P, p2⟩ := p
  obtain ⟨e1, e2⟩ := b
  have e1 : p1 = c := e1
  have e2 : p2 = _ := e2
  subst e1 e2
  exact ⟨p1, P, rfl, hp⟩
/-! ### the hook -/
structure HX where
  file : Str
  xs : List String
  ls : List String
def hxB (x : HX) (KB K : PySem.W.Frag) : Bool := x.xs.all (xcB x.file K) && (x.xs.all fun a => x.xs.all fun b => decide (PySem.W.exmOne K (.ref (He.ga K (Str.ofString a))) (.ref (He.ga K (Str.ofString b))) = some (decide (a = b)))) && tabsB KB K && x.ls.all fun y => lamB K (Str.ofString y)
abbrev AlZ : Type := He.AlD × Bool × Bool
def obsZ (fa : List He.Fa) (fn : List He.DefD) (gt : List GT) (x : HX) (KB K : PySem.W.Frag) : AlZ := (He.obsD fa fn K, gt.all (gtB K), hxB x KB K)
def valZ (fn : List He.DefD) : AlZ := (He.valD fn, true, true)
def SaysZ (fa : List He.Fa) (fn : List He.DefD) (gt : List GT) (x : HX) (KB K : PySem.W.Frag) : Prop := obsZ fa fn gt x KB K = valZ fn
/-- what lies at a is no table -/
def noTab (g : Addr → Option Obj) (a : Addr) : Bool := match g a with
  | some ⟨.none, none, .fields vs, _⟩ => !decide (vs.size = 0)
  | _ => true
def obsZG (n : Nat) (fa : List He.Fa) (fn : List He.DefD) (gt : List GT) (x : HX) (g : Addr → Option Obj) : AlZ := obsZ fa fn gt x (He.frG g (cStatics :: He.asD g n)) (He.frG g ((cStatics :: He.asD g n).filter (noTab g)))
def hookZ (n : Nat) (fa : List He.Fa) (fn : List He.DefD) (gt : List GT) (x : HX) : PySem.W.Hook where
  α := AlZ
  obs s := obsZG n fa fn gt x s.heap.get?
  val _ := valZ fn
  says _ h := ∃ KB K : PySem.W.Frag, KB.In h ∧ K.In h ∧ SaysZ fa fn gt x KB K
  of _ _ e := ⟨_, _, He.frG_in, He.frG_in, e⟩
  keeps _ _ _ y k := by obtain ⟨KB, K, hB, hK, c⟩ := y; exact ⟨KB, K, PySem.W.Frag.In.keeps hB k, PySem.W.Frag.In.keeps hK k, c⟩
theorem obsZG_eq {n : Nat} {fa : List He.Fa} {fn : List He.DefD} {gt : List GT} {x : HX} {g : Addr → Option Obj} {s : Shared} (h : ∀ a, g a = s.heap.get? a) : obsZG n fa fn gt x g = (hookZ n fa fn gt x).obs s := by
  rw [show g = s.heap.get? from funext h]; rfl
section
variable {fa : List He.Fa} {fn : List He.DefD} {gt : List GT} {xx : HX} {KB K : PySem.W.Frag}
theorem SaysZ.d (c : SaysZ fa fn gt xx KB K) : He.SaysD fa fn K := congrArg Prod.fst c
theorem SaysZ.t (c : SaysZ fa fn gt xx KB K) (i : Nat) {g : GT} (h : gt[i]? = some g := by rfl) : gtB K g = true :=
  List.all_eq_true.mp (show gt.all (gtB K) = true from congrArg (fun z : AlZ => z.2.1) c) g (List.mem_of_getElem? h)
theorem SaysZ.hx (c : SaysZ fa fn gt xx KB K) : hxB xx KB K = true := congrArg (fun z : AlZ => z.2.2) c
theorem SaysZ.err (c : SaysZ fa fn gt xx KB K) {P : Program} {h : Heap} {mg : Str → Option Value} (X : K.In h) (G : h.Ns mainGlobals mg) (top : (P.main.scope.names.lookup ("super" : Str)).isSome = false) (hf : xx.file = P.main.file) : ErrOk P K mg (fun c => He.ga K (Str.ofString c)) xx.xs := by
  have b := c.hx
  unfold hxB at b
  simp only [Bool.and_eq_true, List.all_eq_true, decide_eq_true_eq] at b
  exact ⟨fun c hc => xcB_ok X G top (by rw [← hf]; exact b.1.1.1 c hc), fun c hc c' hc' => b.1.1.2 c hc c' hc'⟩
theorem SaysZ.tabs (c : SaysZ fa fn gt xx KB K) {h : Heap} (XB : KB.In h) (X : K.In h) : (∀ p ∈ csK K, h.get? p.2.1 = some { cls := .none, data := .fields #[] } ∧ K.lookup p.2.1 = none ∧ PySem.W.CodeHd h p.1 p.2.1) ∧ ∀ p ∈ tbK K, ∀ p' ∈ tbK K, p.1 = p'.1 → p.2 = p'.2 := by
  have b := c.hx
  unfold hxB tabsB at b
  simp only [Bool.and_eq_true, List.all_eq_true] at b
  refine ⟨fun p hp => ?_, fun p hp q hq e => ?_⟩
  · obtain ⟨⟨h1, h2⟩, h3⟩ := b.1.2.1 p hp
    exact ⟨tabO_ok XB h1, Option.isNone_iff_eq_none.mp h2, codeB_ok X h3⟩
  · have h1 := b.1.2.2 p hp q hq
    rw [decide_eq_true e] at h1
    simpa using h1
theorem SaysZ.lam (c : SaysZ fa fn gt xx KB K) {y : String} (hy : y ∈ xx.ls) : lamB K (Str.ofString y) = true := by
  have b := c.hx
  unfold hxB at b
  simp only [Bool.and_eq_true, List.all_eq_true] at b
  exact b.2 y hy
end
end Z


/-! K21T: the defs of the law in the small language (printed by zprint.py). -/
namespace Z
namespace K21T
open PySem
def hf__law_heard : HF := ⟨.var, [("InvalidForm", "form"), ("InvalidFormula", "formula"), ("InvalidValue", "value"), ("InvalidQuestion", "question"), ("Refused", "refused")]⟩
def f_is_unknown_c0 : E :=
(.boo false (.cons (.cmp .inn (.var 1) (.gl "LETTERS" (.str "abcdefghijklmnopqrstuvwxyz"))) (.cons (.cmp .inn (.var 1) (.gl "DIGITS" (.str "0123456789"))) (.cons (.cmp .inn (.var 1) (.gl "MARKS" (.str "._#"))) .nil))))
def f_is_unknown : Fn := ⟨1, 2,
  (.cons (.iff (.boo false (.cons (.not (.isi (.var 0) true [.str])) (.cons (.not (.chain .le .le (.cst (.int 1)) (.bi .len false (.cons (.var 0) .nil)) (.gl "MOST_UNKNOWN" (.int 60)))) .nil)))
    ((.cons (.ret (.som (.cst (.bl false))))
      .nil))
    .nil)
  (.cons (.ret (.som (.boo true (.cons (.cmp .inn (.idx (.var 0) (.cst (.int 0))) (.gl "LETTERS" (.str "abcdefghijklmnopqrstuvwxyz"))) (.cons (.bi .all false (.cons (.comp false f_is_unknown_c0 (.n 1) (.sq (.var 0)) .non [1]) .nil)) .nil)))))
  .nil)), true, 0⟩
def f_are_ascending_c0 : E :=
(.cmp .lt (.var 1) (.var 2))
def f_are_ascending : Fn := ⟨1, 3,
  (.cons (.ret (.som (.bi .all false (.cons (.comp false f_are_ascending_c0 (.t [1, 2]) (.zip (.var 0) (.slc false (.var 0) (.som (.cst (.int 1))) .non)) .non [1, 2]) .nil))))
  .nil), true, 0⟩
def f_is_integer : Fn := ⟨1, 1,
  (.cons (.ret (.som (.boo true (.cons (.isi (.var 0) true [.int]) (.cons (.not (.isi (.var 0) true [.bool])) .nil)))))
  .nil), true, 0⟩
def f_is_sequence : Fn := ⟨1, 1,
  (.cons (.ret (.som (.isi (.var 0) false [.lst, .tup])))
  .nil), true, 0⟩
def f_are_worths_b0 : Ss :=
  (.cons (.iff (.boo false (.cons (.not (.isi (.var 2) true [.tup])) (.cons (.cmp .ne (.bi .len false (.cons (.var 2) .nil)) (.cst (.int 2))) (.cons (.not (.call "is_unknown" (.cons (.idx (.var 2) (.cst (.int 0))) .nil))) (.cons (.not (.call "is_integer" (.cons (.idx (.var 2) (.cst (.int 1))) .nil))) .nil)))))
    ((.cons (.ret (.som (.cst (.bl false))))
      .nil))
    .nil)
  .nil)
def f_are_worths_c0 : E :=
(.idx (.var 2) (.cst (.int 0)))
def f_are_worths : Fn := ⟨2, 3,
  (.cons (.iff (.boo false (.cons (.not (.isi (.var 0) true [.tup])) (.cons (.cmp .gt (.bi .len false (.cons (.var 0) .nil)) (.var 1)) .nil)))
    ((.cons (.ret (.som (.cst (.bl false))))
      .nil))
    .nil)
  (.cons (.for_ (.n 2) (.sq (.var 0)) f_are_worths_b0)
  (.cons (.ret (.som (.call "are_ascending" (.cons (.comp false f_are_worths_c0 (.n 2) (.sq (.var 0)) .non [2]) .nil))))
  .nil))), true, 0⟩
def f_is_form_c0 : E :=
(.cmp .ne (.idx (.var 1) (.cst (.int 1))) (.cst (.int 0)))
def f_is_form : Fn := ⟨1, 2,
  (.cons (.iff (.boo false (.cons (.not (.isi (.var 0) true [.tup])) (.cons (.cmp .ne (.bi .len false (.cons (.var 0) .nil)) (.cst (.int 2))) (.cons (.not (.call "is_integer" (.cons (.idx (.var 0) (.cst (.int 0))) .nil))) .nil))))
    ((.cons (.ret (.som (.cst (.bl false))))
      .nil))
    .nil)
  (.cons (.ret (.som (.boo true (.cons (.call "are_worths" (.cons (.idx (.var 0) (.cst (.int 1))) (.cons (.gl "MOST_UNKNOWNS" (.int 200)) .nil))) (.cons (.bi .all false (.cons (.comp false f_is_form_c0 (.n 1) (.sq (.idx (.var 0) (.cst (.int 1)))) .non [1]) .nil)) .nil)))))
  .nil)), true, 0⟩
def f_checked_worths : Fn := ⟨2, 2,
  (.cons (.iff (.not (.call "are_worths" (.cons (.var 0) (.cons (.gl "MOST_WORTHS" (.int 2000)) .nil))))
    ((.cons (.rais "InvalidValue" (.cons (.var 1) .nil))
      .nil))
    .nil)
  .nil), true, 0⟩
def f_form_of_k0 : E :=
(.cmp .ne (.idx (.var 1) (.var 2)) (.cst (.int 0)))
def f_form_of_c0 : E :=
(.tup (.cons (.var 2) (.cons (.idx (.var 1) (.var 2)) .nil)))
def f_form_of : Fn := ⟨2, 3,
  (.cons (.ret (.som (.tup (.cons (.var 0) (.cons (.bi .tuple false (.cons (.comp false f_form_of_c0 (.n 2) (.sq (.bi .sorted false (.cons (.bi .list false (.cons (.var 1) .nil)) .nil))) (.som f_form_of_k0) [2]) .nil)) .nil)))))
  .nil), true, 0⟩
def f_sum_of_b0 : Ss :=
  (.cons (.asgIx (.var 2) (.var 5) (.bin .add (.mth .get (.var 2) (.cons (.var 5) (.cons (.cst (.int 0)) .nil))) (.bin .mul (.var 6) (.var 4))))
  .nil)
def f_sum_of_b1 : Ss :=
  (.cons (.aug 1 .add (.bin .mul (.idx (.var 3) (.cst (.int 0))) (.var 4)))
  (.cons (.for_ (.t [5, 6]) (.sq (.idx (.var 3) (.cst (.int 1)))) f_sum_of_b0)
  .nil))
def f_sum_of : Fn := ⟨1, 7,
  (.cons (.asg (.t [1, 2]) (.tup (.cons (.cst (.int 0)) (.cons .dic0 .nil))))
  (.cons (.for_ (.t [3, 4]) (.sq (.var 0)) f_sum_of_b1)
  (.cons (.ret (.som (.call "form_of" (.cons (.var 1) (.cons (.var 2) .nil)))))
  .nil))), true, 0⟩
def f_factor_in_b0 : Ss :=
  (.cons (.iff (.cmp .eq (.var 2) (.var 1))
    ((.cons (.ret (.som (.var 3)))
      .nil))
    .nil)
  .nil)
def f_factor_in : Fn := ⟨2, 4,
  (.cons (.for_ (.t [2, 3]) (.sq (.idx (.var 0) (.cst (.int 1)))) f_factor_in_b0)
  (.cons (.ret (.som (.cst (.int 0))))
  .nil)), true, 0⟩
def f_worth_of_c0 : E :=
(.bin .mul (.var 3) (.mth .get (.var 1) (.cons (.var 2) (.cons (.cst (.int 0)) .nil))))
def f_worth_of : Fn := ⟨2, 4,
  (.cons (.ret (.som (.bin .add (.idx (.var 0) (.cst (.int 0))) (.bi .sum false (.cons (.comp false f_worth_of_c0 (.t [2, 3]) (.sq (.idx (.var 0) (.cst (.int 1)))) .non [2, 3]) .nil)))))
  .nil), true, 0⟩
def f_checked_forms_c0 : E :=
(.call "is_form" (.cons (.var 2) .nil))
def f_checked_forms : Fn := ⟨2, 3,
  (.cons (.iff (.boo false (.cons (.not (.call "is_sequence" (.cons (.var 0) .nil))) (.cons (.not (.bi .all false (.cons (.comp false f_checked_forms_c0 (.n 2) (.sq (.var 0)) .non [2]) .nil))) .nil)))
    ((.cons (.rais "InvalidForm" (.cons (.var 1) .nil))
      .nil))
    .nil)
  .nil), true, 0⟩
def f_sides_b0 : Ss :=
  (.cons (.asg (.n 4) (.call "factor_in" (.cons (.var 3) (.cons (.var 1) .nil))))
  (.cons (.ex (.mth .append (.idx (.var 2) (.ite (.cmp .eq (.var 4) (.cst (.int 0))) (.cst (.int 0)) (.ite (.cmp .gt (.var 4) (.cst (.int 0))) (.cst (.int 1)) (.cst (.int 2))))) (.cons (.var 3) .nil)))
  .nil))
def f_sides : Fn := ⟨2, 5,
  (.cons (.asg (.n 2) (.tup (.cons (.lst true .nil) (.cons (.lst true .nil) (.cons (.lst true .nil) .nil)))))
  (.cons (.for_ (.n 3) (.sq (.var 0)) f_sides_b0)
  (.cons (.ret (.som (.var 2)))
  .nil))), true, 0⟩
def f_crossed : Fn := ⟨4, 7,
  (.cons (.asg (.t [5, 6]) (.tup (.cons (.call "factor_in" (.cons (.var 0) (.cons (.var 2) .nil))) (.cons (.neg (.call "factor_in" (.cons (.var 1) (.cons (.var 2) .nil)))) .nil))))
  (.cons (.asg (.n 4) (.ite (.var 3) (.bin .mul (.bin .sub (.var 5) (.cst (.int 1))) (.bin .sub (.var 6) (.cst (.int 1)))) (.cst (.int 0))))
  (.cons (.ret (.som (.call "sum_of" (.cons (.lst false (.cons (.tup (.cons (.var 0) (.cons (.var 6) .nil))) (.cons (.tup (.cons (.var 1) (.cons (.var 5) .nil))) (.cons (.tup (.cons (.tup (.cons (.neg (.var 4)) (.cons (.tup .nil) .nil))) (.cons (.cst (.int 1)) .nil))) .nil)))) .nil))))
  .nil))), true, 0⟩
def f_checked_question : Fn := ⟨2, 2,
  (.cons (.ex (.call "checked_forms" (.cons (.var 0) (.cons (.cst (.int 0)) .nil))))
  (.cons (.iff (.not (.call "is_unknown" (.cons (.var 1) .nil)))
    ((.cons (.rais "InvalidQuestion" (.cons (.cst (.int 1)) .nil))
      .nil))
    .nil)
  .nil)), true, 0⟩
def f_cast_c0 : E :=
(.call "crossed" (.cons (.var 6) (.cons (.var 7) (.cons (.var 1) (.cons (.var 2) .nil)))))
def f_cast : Fn := ⟨3, 8,
  (.cons (.asg (.t [3, 4, 5]) (.call "sides" (.cons (.var 0) (.cons (.var 1) .nil))))
  (.cons (.ret (.som (.bi .tuple false (.cons (.bin .add (.var 3) (.comp2 false f_cast_c0 (.n 6) (.sq (.var 4)) .non (.n 7) (.sq (.var 5)) .non [6, 7] [7])) .nil))))
  .nil)), true, 0⟩
def f_shadow : Fn := ⟨2, 2,
  (.cons (.ex (.call "checked_question" (.cons (.var 0) (.cons (.var 1) .nil))))
  (.cons (.ret (.som (.call "cast" (.cons (.var 0) (.cons (.var 1) (.cons (.cst (.bl false)) .nil))))))
  .nil)), true, 0⟩
def f_dark_shadow : Fn := ⟨2, 2,
  (.cons (.ex (.call "checked_question" (.cons (.var 0) (.cons (.var 1) .nil))))
  (.cons (.ret (.som (.call "cast" (.cons (.var 0) (.cons (.var 1) (.cons (.cst (.bl true)) .nil))))))
  .nil)), true, 0⟩
def f_bounds_of_b0 : Ss :=
  (.cons (.asg (.n 6) (.call "factor_in" (.cons (.var 3) (.cons (.var 1) .nil))))
  (.cons (.asg (.n 7) (.bin .sub (.call "worth_of" (.cons (.var 3) (.cons (.var 2) .nil))) (.bin .mul (.var 6) (.mth .get (.var 2) (.cons (.var 1) (.cons (.cst (.int 0)) .nil))))))
  (.cons (.iff (.cmp .gt (.var 6) (.cst (.int 0)))
    ((.cons (.asg (.n 4) (.ite (.isN false (.var 4)) (.neg (.bin .fdiv (.var 7) (.var 6))) (.bi .max false (.cons (.var 4) (.cons (.neg (.bin .fdiv (.var 7) (.var 6))) .nil)))))
      .nil))
    .nil)
  (.cons (.iff (.cmp .lt (.var 6) (.cst (.int 0)))
    ((.cons (.asg (.n 5) (.ite (.isN false (.var 5)) (.bin .fdiv (.var 7) (.neg (.var 6))) (.bi .min false (.cons (.var 5) (.cons (.bin .fdiv (.var 7) (.neg (.var 6))) .nil)))))
      .nil))
    .nil)
  .nil))))
def f_bounds_of : Fn := ⟨3, 8,
  (.cons (.asg (.t [4, 5]) (.tup (.cons (.cst .non) (.cons (.cst .non) .nil))))
  (.cons (.for_ (.n 3) (.sq (.var 0)) f_bounds_of_b0)
  (.cons (.ret (.som (.tup (.cons (.var 4) (.cons (.var 5) .nil)))))
  .nil))), true, 0⟩
def f_between_c0 : E :=
(.cmp .lt (.call "worth_of" (.cons (.var 6) (.cons (.var 3) .nil))) (.cst (.int 0)))
def f_between : Fn := ⟨3, 7,
  (.cons (.ex (.call "checked_question" (.cons (.var 0) (.cons (.var 1) .nil))))
  (.cons (.ex (.call "checked_worths" (.cons (.var 2) (.cons (.cst (.int 2)) .nil))))
  (.cons (.asg (.n 3) (.bi .dict false (.cons (.var 2) .nil)))
  (.cons (.iff (.bi .any false (.cons (.comp false f_between_c0 (.n 6) (.sq (.idx (.call "sides" (.cons (.var 0) (.cons (.var 1) .nil))) (.cst (.int 0)))) .non [6]) .nil))
    ((.cons (.ret (.som (.cst .non)))
      .nil))
    .nil)
  (.cons (.asg (.t [4, 5]) (.call "bounds_of" (.cons (.var 0) (.cons (.var 1) (.cons (.var 3) .nil)))))
  (.cons (.ret (.som (.ite (.boo true (.cons (.isN true (.var 4)) (.cons (.isN true (.var 5)) (.cons (.cmp .gt (.var 4) (.var 5)) .nil)))) (.cst .non) (.tup (.cons (.var 4) (.cons (.var 5) .nil))))))
  .nil)))))), true, 0⟩
def f_law_draw_c0 : E :=
(.bin .mod (.bi .abs false (.cons (.bi .int false (.cons (.var 4) .nil)) .nil)) (.bin .pow (.cst (.int 10)) (.cst (.int 60))))
def f_law_draw_b0 : Ss :=
  (.cons (.asg (.n 3) (.bin .mod (.bi .int false (.cons (.bin .add (.bin .add (.bin .mul (.var 3) (.cst (.int 48271))) (.bin .mod (.var 4) (.cst (.int 2147483549)))) (.cst (.int 11))) .nil)) (.cst (.int 2147483647))))
  .nil)
def f_law_draw_k0 : E :=
(.cmp .ge (.var 4) (.bin .pow (.cst (.int 10)) (.cst (.int 18))))
def f_law_draw_c1 : E :=
(.var 4)
def f_law_draw : Fn := ⟨2, 5,
  (.cons (.asg (.n 2) (.comp false f_law_draw_c0 (.n 4) (.sq (.slc false (.var 0) .non (.som (.cst (.int 48))))) .non [4]))
  (.cons (.asg (.n 3) (.bin .add (.cst (.int 7919)) (.bin .mul (.cst (.int 104729)) (.var 1))))
  (.cons (.for_ (.n 4) (.sq (.var 2)) f_law_draw_b0)
  (.cons (.ret (.som (.lst true (.cons (.rev true (.comp false f_law_draw_c1 (.n 4) (.sq (.var 2)) (.som f_law_draw_k0) [4])) (.cons (.var 3) .nil)))))
  .nil)))), false, 0⟩
def f_law_any_w0 : E :=
(.boo true (.cons (.cmp .ne (.idx (.var 0) (.cst (.int 0))) (.lst false .nil)) (.cons (.cmp .eq (.idx (.idx (.var 0) (.cst (.int 0))) (.neg (.cst (.int 1)))) (.cst (.int 0))) .nil)))
def f_law_any_b0 : Ss :=
  (.cons (.ex (.mth .pop (.idx (.var 0) (.cst (.int 0))) .nil))
  .nil)
def f_law_any : Fn := ⟨2, 3,
  (.cons (.whl f_law_any_w0 f_law_any_b0)
  (.cons (.iff (.cmp .ne (.idx (.var 0) (.cst (.int 0))) (.lst false .nil))
    ((.cons (.asg (.n 2) (.bi .int false (.cons (.mth .pop (.idx (.var 0) (.cst (.int 0))) .nil) .nil)))
      (.cons (.ex (.mth .append (.idx (.var 0) (.cst (.int 0))) (.cons (.bin .fdiv (.var 2) (.var 1)) .nil)))
      (.cons (.ret (.som (.bin .mod (.var 2) (.var 1))))
      .nil))))
    .nil)
  (.cons (.asgIx (.var 0) (.cst (.int 1)) (.bin .mod (.bi .int false (.cons (.bin .add (.bin .mul (.idx (.var 0) (.cst (.int 1))) (.cst (.int 40693))) (.cst (.int 71))) .nil)) (.cst (.int 2147483647))))
  (.cons (.ret (.som (.bin .mod (.bi .int false (.cons (.bin .fdiv (.idx (.var 0) (.cst (.int 1))) (.cst (.int 64))) .nil)) (.var 1))))
  .nil)))), false, 0⟩
def f_law_of : Fn := ⟨2, 2,
  (.cons (.ret (.som (.idx (.var 1) (.call "_law_any" (.cons (.var 0) (.cons (.bi .len false (.cons (.var 1) .nil)) .nil))))))
  .nil), false, 0⟩
def f_law_mixed_w0 : E :=
(.cmp .ne (.var 2) (.lst false .nil))
def f_law_mixed_b0 : Ss :=
  (.cons (.ex (.mth .append (.var 3) (.cons (.mth .popAt (.var 2) (.cons (.call "_law_any" (.cons (.var 0) (.cons (.bi .len false (.cons (.var 2) .nil)) .nil))) .nil)) .nil)))
  .nil)
def f_law_mixed : Fn := ⟨2, 4,
  (.cons (.asg (.t [2, 3]) (.tup (.cons (.bi .list true (.cons (.var 1) .nil)) (.cons (.lst true .nil) .nil))))
  (.cons (.whl f_law_mixed_w0 f_law_mixed_b0)
  (.cons (.ret (.som (.frz (.var 3))))
  .nil))), false, 0⟩
def f_law_same_k0 : E :=
(.not (.call "_law_same" (.cons (.var 2) (.cons (.var 3) .nil))))
def f_law_same_c0 : E :=
(.cst (.int 0))
def f_law_same : Fn := ⟨2, 4,
  (.cons (.iff (.isi (.var 1) false [.tup, .lst])
    ((.cons (.iff (.boo false (.cons (.cmp .ne (.isi (.var 1) true [.tup]) (.isi (.var 0) true [.tup])) (.cons (.not (.isi (.var 0) false [.tup, .lst])) (.cons (.cmp .ne (.bi .len false (.cons (.var 0) .nil)) (.bi .len false (.cons (.var 1) .nil))) .nil))))
        ((.cons (.ret (.som (.cst (.bl false))))
          .nil))
        .nil)
      (.cons (.ret (.som (.cmp .eq (.comp false f_law_same_c0 (.t [2, 3]) (.zip (.var 0) (.var 1)) (.som f_law_same_k0) [2, 3]) (.lst false .nil))))
      .nil)))
    .nil)
  (.cons (.iff (.isN false (.var 1))
    ((.cons (.ret (.som (.isN false (.var 0))))
      .nil))
    .nil)
  (.cons (.iff (.isB false true (.var 1))
    ((.cons (.ret (.som (.isB false true (.var 0))))
      .nil))
    .nil)
  (.cons (.iff (.isB false false (.var 1))
    ((.cons (.ret (.som (.isB false false (.var 0))))
      .nil))
    .nil)
  (.cons (.iff (.isi (.var 1) true [.int])
    ((.cons (.ret (.som (.boo true (.cons (.isi (.var 0) true [.int]) (.cons (.not (.isi (.var 0) true [.bool])) (.cons (.cmp .eq (.var 0) (.var 1)) .nil))))))
      .nil))
    .nil)
  (.cons (.ret (.som (.boo true (.cons (.isi (.var 0) true [.str]) (.cons (.cmp .eq (.var 0) (.var 1)) .nil)))))
  .nil)))))), true, 0⟩
def f_law_number : Fn := ⟨1, 1,
  (.cons (.ret (.som (.call "_law_of" (.cons (.var 0) (.cons (.lst false (.cons (.cst (.int 0)) (.cons (.cst (.int 1)) (.cons (.cst (.int 2)) (.cons (.neg (.cst (.int 1))) (.cons (.neg (.cst (.int 3))) (.cons (.cst (.int 5)) (.cons (.neg (.cst (.int 8))) (.cons (.cst (.int 12)) (.cons (.bin .sub (.call "_law_any" (.cons (.var 0) (.cons (.cst (.int 60)) .nil))) (.cst (.int 30))) (.cons (.bin .add (.bin .pow (.cst (.int 10)) (.cst (.int 20))) (.call "_law_any" (.cons (.var 0) (.cons (.cst (.int 9)) .nil)))) (.cons (.bin .sub (.call "_law_any" (.cons (.var 0) (.cons (.cst (.int 9)) .nil))) (.bin .pow (.cst (.int 10)) (.cst (.int 25)))) .nil)))))))))))) .nil)))))
  .nil), false, 0⟩
def f_law_sum_b0 : Ss :=
  (.cons (.asgIx (.var 2) (.var 5) (.bin .add (.mth .get (.var 2) (.cons (.var 5) (.cons (.cst (.int 0)) .nil))) (.bin .mul (.var 6) (.var 4))))
  .nil)
def f_law_sum_b1 : Ss :=
  (.cons (.aug 1 .add (.bin .mul (.idx (.var 3) (.cst (.int 0))) (.var 4)))
  (.cons (.for_ (.t [5, 6]) (.sq (.idx (.var 3) (.cst (.int 1)))) f_law_sum_b0)
  .nil))
def f_law_sum_k0 : E :=
(.cmp .ne (.idx (.var 2) (.var 5)) (.cst (.int 0)))
def f_law_sum_c0 : E :=
(.tup (.cons (.var 5) (.cons (.idx (.var 2) (.var 5)) .nil)))
def f_law_sum : Fn := ⟨1, 7,
  (.cons (.asg (.t [1, 2]) (.tup (.cons (.cst (.int 0)) (.cons .dic0 .nil))))
  (.cons (.for_ (.t [3, 4]) (.sq (.var 0)) f_law_sum_b1)
  (.cons (.ret (.som (.tup (.cons (.var 1) (.cons (.bi .tuple false (.cons (.comp false f_law_sum_c0 (.n 5) (.sq (.bi .sorted false (.cons (.bi .list false (.cons (.var 2) .nil)) .nil))) (.som f_law_sum_k0) [5]) .nil)) .nil)))))
  .nil))), true, 0⟩
def f_law_form_c0 : E :=
(.tup (.cons (.tup (.cons (.cst (.int 0)) (.cons (.tup (.cons (.tup (.cons (.var 3) (.cons (.cst (.int 1)) .nil))) .nil)) .nil))) (.cons (.call "_law_of" (.cons (.var 0) (.cons (.lst false (.cons (.cst (.int 1)) (.cons (.neg (.cst (.int 1))) (.cons (.cst (.int 2)) (.cons (.neg (.cst (.int 2))) (.cons (.cst (.int 3)) (.cons (.neg (.cst (.int 5))) (.cons (.cst (.int 7)) .nil)))))))) .nil))) .nil)))
def f_law_form : Fn := ⟨2, 4,
  (.cons (.asg (.n 2) (.bi .sorted false (.cons (.slc false (.call "_law_mixed" (.cons (.var 0) (.cons (.var 1) .nil))) .non (.som (.call "_law_any" (.cons (.var 0) (.cons (.cst (.int 4)) .nil))))) .nil)))
  (.cons (.ret (.som (.call "_law_sum" (.cons (.bin .add (.lst false (.cons (.tup (.cons (.tup (.cons (.bin .sub (.call "_law_any" (.cons (.var 0) (.cons (.cst (.int 21)) .nil))) (.cst (.int 10))) (.cons (.tup .nil) .nil))) (.cons (.cst (.int 1)) .nil))) .nil)) (.comp false f_law_form_c0 (.n 3) (.sq (.var 2)) .non [3])) .nil))))
  .nil)), false, 0⟩
def f_law_long_form_c0 : E :=
(.tup (.cons (.tup (.cons (.cst (.int 0)) (.cons (.tup (.cons (.tup (.cons (.var 3) (.cons (.cst (.int 1)) .nil))) .nil)) .nil))) (.cons (.call "_law_number" (.cons (.var 0) .nil)) .nil)))
def f_law_long_form : Fn := ⟨2, 4,
  (.cons (.asg (.n 2) (.bi .sorted false (.cons (.slc false (.call "_law_mixed" (.cons (.var 0) (.cons (.var 1) .nil))) .non (.som (.call "_law_any" (.cons (.var 0) (.cons (.bin .add (.bi .len false (.cons (.var 1) .nil)) (.cst (.int 1))) .nil))))) .nil)))
  (.cons (.ret (.som (.call "_law_sum" (.cons (.bin .add (.lst false (.cons (.tup (.cons (.tup (.cons (.call "_law_number" (.cons (.var 0) .nil)) (.cons (.tup .nil) .nil))) (.cons (.cst (.int 1)) .nil))) .nil)) (.comp false f_law_long_form_c0 (.n 3) (.sq (.var 2)) .non [3])) .nil))))
  .nil)), false, 0⟩
def f_law_worth_c0 : E :=
(.bin .mul (.var 3) (.mth .get (.var 1) (.cons (.var 2) (.cons (.cst (.int 0)) .nil))))
def f_law_worth : Fn := ⟨2, 4,
  (.cons (.ret (.som (.bin .add (.idx (.var 0) (.cst (.int 0))) (.bi .sum false (.cons (.comp false f_law_worth_c0 (.t [2, 3]) (.sq (.idx (.var 0) (.cst (.int 1)))) .non [2, 3]) .nil)))))
  .nil), true, 0⟩
def f_law_worths_c0 : E :=
(.tup (.cons (.var 3) (.cons (.call "_law_of" (.cons (.var 0) (.cons (.lst false (.cons (.bin .sub (.call "_law_any" (.cons (.var 0) (.cons (.cst (.int 9)) .nil))) (.cst (.int 4))) (.cons (.bin .sub (.call "_law_any" (.cons (.var 0) (.cons (.cst (.int 60)) .nil))) (.cst (.int 30))) (.cons (.call "_law_number" (.cons (.var 0) .nil)) .nil)))) .nil))) .nil)))
def f_law_worths : Fn := ⟨2, 4,
  (.cons (.asg (.n 2) (.bi .sorted false (.cons (.slc false (.call "_law_mixed" (.cons (.var 0) (.cons (.var 1) .nil))) .non (.som (.call "_law_any" (.cons (.var 0) (.cons (.bin .add (.bi .len false (.cons (.var 1) .nil)) (.cst (.int 1))) .nil))))) .nil)))
  (.cons (.ret (.som (.bi .tuple false (.cons (.comp false f_law_worths_c0 (.n 3) (.sq (.var 2)) .non [3]) .nil))))
  .nil)), false, 0⟩
def f_law_forms_wrong : Fn := ⟨1, 1,
  (.cons (.ret (.som (.call "_law_of" (.cons (.var 0) (.cons (.lst false (.cons (.cst .non) (.cons (.cst (.int 5)) (.cons (.tup (.cons (.tup (.cons (.cst (.int 0)) (.cons (.tup .nil) .nil))) (.cons (.cst (.int 3)) .nil))) (.cons (.lst false (.cons (.tup (.cons (.cst (.int 0)) (.cons (.tup (.cons (.tup (.cons (.cst (.str "x")) (.cons (.cst (.int 0)) .nil))) .nil)) .nil))) .nil)) (.cons (.tup (.cons (.tup (.cons (.cst (.bl true)) (.cons (.tup .nil) .nil))) .nil)) (.cons (.tup (.cons (.tup (.cons (.cst (.int 0)) (.cons (.tup (.cons (.tup (.cons (.cst (.str "y")) (.cons (.cst (.int 1)) .nil))) (.cons (.tup (.cons (.cst (.str "x")) (.cons (.cst (.int 1)) .nil))) .nil))) .nil))) .nil)) (.cons (.tup (.cons (.tup (.cons (.cst (.int 0)) (.cons (.tup (.cons (.tup (.cons (.cst (.str "X")) (.cons (.cst (.int 1)) .nil))) .nil)) .nil))) .nil)) .nil)))))))) .nil)))))
  .nil), false, 0⟩
def f_law_cast_k0 : E :=
(.cmp .nin (.var 1) (.bi .dict false (.cons (.idx (.var 7) (.cst (.int 1))) .nil)))
def f_law_cast_c0 : E :=
(.var 7)
def f_law_cast_k1 : E :=
(.cmp .gt (.mth .get (.bi .dict false (.cons (.idx (.var 7) (.cst (.int 1))) .nil)) (.cons (.var 1) (.cons (.cst (.int 0)) .nil))) (.cst (.int 0)))
def f_law_cast_c1 : E :=
(.var 7)
def f_law_cast_b0 : Ss :=
  (.cons (.asg (.t [9, 10]) (.tup (.cons (.idx (.bi .dict false (.cons (.idx (.var 5) (.cst (.int 1))) .nil)) (.var 1)) (.cons (.neg (.idx (.bi .dict false (.cons (.idx (.var 6) (.cst (.int 1))) .nil)) (.var 1))) .nil))))
  (.cons (.asg (.n 8) (.ite (.var 2) (.bin .mul (.bin .sub (.var 9) (.cst (.int 1))) (.bin .sub (.var 10) (.cst (.int 1)))) (.cst (.int 0))))
  (.cons (.ex (.mth .append (.var 3) (.cons (.call "_law_sum" (.cons (.lst false (.cons (.tup (.cons (.var 5) (.cons (.var 10) .nil))) (.cons (.tup (.cons (.var 6) (.cons (.var 9) .nil))) (.cons (.tup (.cons (.tup (.cons (.neg (.var 8)) (.cons (.tup .nil) .nil))) (.cons (.cst (.int 1)) .nil))) .nil)))) .nil)) .nil)))
  .nil)))
def f_law_cast_k2 : E :=
(.cmp .lt (.mth .get (.bi .dict false (.cons (.idx (.var 7) (.cst (.int 1))) .nil)) (.cons (.var 1) (.cons (.cst (.int 0)) .nil))) (.cst (.int 0)))
def f_law_cast_c2 : E :=
(.var 7)
def f_law_cast_b1 : Ss :=
  (.cons (.for_ (.n 6) (.sq (.comp false f_law_cast_c2 (.n 7) (.sq (.var 0)) (.som f_law_cast_k2) [7])) f_law_cast_b0)
  .nil)
def f_law_cast : Fn := ⟨3, 11,
  (.cons (.asg (.n 3) (.comp true f_law_cast_c0 (.n 7) (.sq (.var 0)) (.som f_law_cast_k0) [7]))
  (.cons (.asg (.n 4) (.comp false f_law_cast_c1 (.n 7) (.sq (.var 0)) (.som f_law_cast_k1) [7]))
  (.cons (.for_ (.n 5) (.sq (.var 4)) f_law_cast_b1)
  (.cons (.ret (.som (.bi .tuple false (.cons (.var 3) .nil))))
  .nil)))), true, 0⟩
def f_law_span_k0 : E :=
(.cmp .ne (.var 8) (.var 1))
def f_law_span_c0 : E :=
(.tup (.cons (.var 8) (.cons (.var 9) .nil)))
def f_law_span_b0 : Ss :=
  (.cons (.asg (.t [6, 7]) (.tup (.cons (.mth .get (.bi .dict false (.cons (.idx (.var 3) (.cst (.int 1))) .nil)) (.cons (.var 1) (.cons (.cst (.int 0)) .nil))) (.cons (.call "_law_worth" (.cons (.var 3) (.cons (.var 2) .nil))) .nil))))
  (.cons (.iff (.boo true (.cons (.cmp .eq (.var 6) (.cst (.int 0))) (.cons (.cmp .lt (.var 7) (.cst (.int 0))) .nil)))
    ((.cons (.ret (.som (.cst .non)))
      .nil))
    .nil)
  (.cons (.iff (.boo true (.cons (.cmp .gt (.var 6) (.cst (.int 0))) (.cons (.boo false (.cons (.isN false (.var 4)) (.cons (.cmp .lt (.bin .add (.bin .mul (.var 4) (.var 6)) (.var 7)) (.cst (.int 0))) .nil))) .nil)))
    ((.cons (.asg (.n 4) (.bin .fdiv (.bin .sub (.bin .sub (.var 6) (.cst (.int 1))) (.var 7)) (.var 6)))
      .nil))
    .nil)
  (.cons (.iff (.boo true (.cons (.cmp .lt (.var 6) (.cst (.int 0))) (.cons (.boo false (.cons (.isN false (.var 5)) (.cons (.cmp .lt (.bin .add (.bin .mul (.var 5) (.var 6)) (.var 7)) (.cst (.int 0))) .nil))) .nil)))
    ((.cons (.asg (.n 5) (.bin .fdiv (.var 7) (.bin .sub (.cst (.int 0)) (.var 6))))
      .nil))
    .nil)
  .nil))))
def f_law_span : Fn := ⟨3, 10,
  (.cons (.asg (.t [4, 5, 2]) (.tup (.cons (.cst .non) (.cons (.cst .non) (.cons (.bi .dict false (.cons (.comp false f_law_span_c0 (.t [8, 9]) (.sq (.bi .ditems false (.cons (.var 2) .nil))) (.som f_law_span_k0) [8, 9]) .nil)) .nil)))))
  (.cons (.for_ (.n 3) (.sq (.var 0)) f_law_span_b0)
  (.cons (.iff (.boo true (.cons (.isN true (.var 4)) (.cons (.isN true (.var 5)) (.cons (.cmp .gt (.var 4) (.var 5)) .nil))))
    ((.cons (.ret (.som (.cst .non)))
      .nil))
    .nil)
  (.cons (.ret (.som (.tup (.cons (.var 4) (.cons (.var 5) .nil)))))
  .nil)))), true, 0⟩
def f_law_bounding_b0 : Ss :=
  (.cons (.asg (.n 5) (.ite (.cmp .eq (.call "_law_any" (.cons (.var 0) (.cons (.cst (.int 5)) .nil))) (.cst (.int 0))) (.call "_law_long_form" (.cons (.var 0) (.cons (.var 2) .nil))) (.call "_law_form" (.cons (.var 0) (.cons (.var 2) .nil)))))
  (.cons (.asg (.n 6) (.call "_law_of" (.cons (.var 0) (.cons (.lst false (.cons (.cst (.int 0)) (.cons (.cst (.int 1)) (.cons (.neg (.cst (.int 1))) (.cons (.cst (.int 2)) (.cons (.neg (.cst (.int 2))) (.cons (.cst (.int 3)) (.cons (.neg (.cst (.int 3))) (.cons (.cst (.int 5)) (.cons (.neg (.cst (.int 7))) (.cons (.cst (.int 12)) (.cons (.neg (.cst (.int 20))) (.cons (.call "_law_number" (.cons (.var 0) .nil)) .nil))))))))))))) .nil))))
  (.cons (.ex (.mth .append (.var 3) (.cons (.call "_law_sum" (.cons (.ite (.cmp .ne (.var 6) (.cst (.int 0))) (.lst false (.cons (.tup (.cons (.var 5) (.cons (.cst (.int 1)) .nil))) (.cons (.tup (.cons (.tup (.cons (.cst (.int 0)) (.cons (.tup (.cons (.tup (.cons (.var 1) (.cons (.var 6) .nil))) .nil)) .nil))) (.cons (.cst (.int 1)) .nil))) .nil))) (.lst false (.cons (.tup (.cons (.var 5) (.cons (.cst (.int 1)) .nil))) .nil))) .nil)) .nil)))
  .nil)))
def f_law_bounding : Fn := ⟨3, 7,
  (.cons (.asg (.n 3) (.lst true .nil))
  (.cons (.for_ (.n 4) (.rng (.cons (.call "_law_any" (.cons (.var 0) (.cons (.cst (.int 6)) .nil))) .nil)) f_law_bounding_b0)
  (.cons (.ret (.som (.frz (.var 3))))
  .nil))), false, 0⟩
def f_law_near_c0 : E :=
(.tup (.cons (.bin .add (.bin .sub (.idx (.var 5) (.cst (.int 0))) (.call "_law_worth" (.cons (.var 5) (.cons (.var 4) .nil)))) (.call "_law_of" (.cons (.var 0) (.cons (.lst false (.cons (.cst (.int 0)) (.cons (.cst (.int 0)) (.cons (.cst (.int 1)) (.cons (.cst (.int 2)) (.cons (.cst (.int 3)) (.cons (.cst (.int 7)) (.cons (.neg (.cst (.int 1))) .nil)))))))) .nil)))) (.cons (.idx (.var 5) (.cst (.int 1))) .nil)))
def f_law_near : Fn := ⟨4, 6,
  (.cons (.asg (.n 4) (.bi .dict true (.cons (.bi .list false (.cons (.var 3) .nil)) .nil)))
  (.cons (.asgIx (.var 4) (.var 2) (.bin .sub (.call "_law_any" (.cons (.var 0) (.cons (.cst (.int 41)) .nil))) (.cst (.int 20))))
  (.cons (.ret (.som (.comp false f_law_near_c0 (.n 5) (.sq (.var 1)) .non [5])))
  .nil))), false, 0⟩
def f_law_kept_c0 : E :=
(.call "_law_worth" (.cons (.var 6) (.cons (.var 2) .nil)))
def f_law_kept_c1 : E :=
(.call "_law_worth" (.cons (.var 6) (.cons (.var 2) .nil)))
def f_law_kept_k0 : E :=
(.cmp .lt (.var 7) (.cst (.int 0)))
def f_law_kept_c2 : E :=
(.var 7)
def f_law_kept_k1 : E :=
(.cmp .lt (.var 7) (.cst (.int 0)))
def f_law_kept_c3 : E :=
(.var 7)
def f_law_kept : Fn := ⟨4, 8,
  (.cons (.asg (.n 4) (.comp false f_law_kept_c0 (.n 6) (.sq (.call "_law_cast" (.cons (.var 0) (.cons (.var 1) (.cons (.cst (.bl false)) .nil))))) .non [6]))
  (.cons (.asg (.n 5) (.comp false f_law_kept_c1 (.n 6) (.sq (.call "_law_cast" (.cons (.var 0) (.cons (.var 1) (.cons (.cst (.bl true)) .nil))))) .non [6]))
  (.cons (.iff (.boo true (.cons (.isN true (.var 3)) (.cons (.cmp .ne (.comp false f_law_kept_c2 (.n 7) (.sq (.var 4)) (.som f_law_kept_k0) [7]) (.lst false .nil)) .nil)))
    ((.cons (.ret (.som (.cst (.bl false))))
      .nil))
    .nil)
  (.cons (.ret (.som (.boo false (.cons (.isN true (.var 3)) (.cons (.cmp .ne (.comp false f_law_kept_c3 (.n 7) (.sq (.var 5)) (.som f_law_kept_k1) [7]) (.lst false .nil)) .nil)))))
  .nil)))), true, 0⟩
def f_law_b0 : Ss :=
  (.cons (.asg (.n 3) (.call "_law_of" (.cons (.var 1) (.cons (.lst false (.cons (.cst (.str "x")) (.cons (.cst (.str "a#1.2")) (.cons (.cst (.str "y")) .nil)))) .nil))))
  (.cons (.asg (.n 4) (.slc false (.call "_law_mixed" (.cons (.var 1) (.cons (.lst false (.cons (.cst (.str "b")) (.cons (.cst (.str "z")) (.cons (.cst (.str "x_1")) (.cons (.cst (.str "c.c")) .nil))))) .nil))) .non (.som (.call "_law_any" (.cons (.var 1) (.cons (.cst (.int 4)) .nil))))))
  (.cons (.asg (.n 5) (.call "_law_worths" (.cons (.var 1) (.cons (.bin .add (.var 4) (.lst false (.cons (.var 3) .nil))) .nil))))
  (.cons (.asg (.n 6) (.call "_law_bounding" (.cons (.var 1) (.cons (.var 3) (.cons (.var 4) .nil)))))
  (.cons (.iff (.cmp .eq (.call "_law_any" (.cons (.var 1) (.cons (.cst (.int 2)) .nil))) (.cst (.int 0)))
    ((.cons (.asg (.n 6) (.call "_law_near" (.cons (.var 1) (.cons (.var 6) (.cons (.var 3) (.cons (.var 5) .nil))))))
      .nil))
    .nil)
  (.cons (.asg (.n 7) (.ite (.cmp .eq (.call "_law_any" (.cons (.var 1) (.cons (.cst (.int 2)) .nil))) (.cst (.int 0))) (.bi .tuple false (.cons (.var 6) .nil)) (.bi .list false (.cons (.var 6) .nil))))
  (.cons (.asg (.n 8) (.lst false (.cons (.call "shadow" (.cons (.var 7) (.cons (.var 3) .nil))) (.cons (.callk "dark_shadow" .nil ["name", "forms"] [1, 0] (.cons (.var 3) (.cons (.var 7) .nil))) (.cons (.callk "between" .nil ["forms", "name", "worths"] [] (.cons (.var 7) (.cons (.var 3) (.cons (.var 5) .nil)))) .nil)))))
  (.cons (.asg (.n 9) (.call "_law_span" (.cons (.var 6) (.cons (.var 3) (.cons (.bi .dict false (.cons (.bi .list false (.cons (.var 5) .nil)) .nil)) .nil)))))
  (.cons (.iff (.not (.call "_law_same" (.cons (.var 8) (.cons (.lst false (.cons (.call "_law_cast" (.cons (.var 6) (.cons (.var 3) (.cons (.cst (.bl false)) .nil)))) (.cons (.call "_law_cast" (.cons (.var 6) (.cons (.var 3) (.cons (.cst (.bl true)) .nil)))) (.cons (.var 9) .nil)))) .nil))))
    ((.cons (.ret (.som (.cst (.bl false))))
      .nil))
    .nil)
  (.cons (.iff (.not (.call "_law_kept" (.cons (.var 6) (.cons (.var 3) (.cons (.bi .dict false (.cons (.bi .list false (.cons (.var 5) .nil)) .nil)) (.cons (.var 9) .nil))))))
    ((.cons (.ret (.som (.cst (.bl false))))
      .nil))
    .nil)
  (.cons (.asg (.t [11, 12, 13]) (.tup (.cons (.call "_law_forms_wrong" (.cons (.var 1) .nil)) (.cons (.call "_law_of" (.cons (.var 1) (.cons (.lst false (.cons (.cst (.str "")) (.cons (.cst (.str "X")) (.cons (.cst (.int 3)) (.cons (.cst .non) (.cons (.bin .mul (.cst (.str "n")) (.cst (.int 61))) .nil)))))) .nil))) (.cons (.call "_law_of" (.cons (.var 1) (.cons (.lst false (.cons (.cst .non) (.cons (.lst false .nil) (.cons (.tup (.cons (.tup (.cons (.cst (.str "x")) (.cons (.cst (.bl true)) .nil))) .nil)) (.cons (.tup (.cons (.tup (.cons (.cst (.str "y")) (.cons (.cst (.int 1)) .nil))) (.cons (.tup (.cons (.cst (.str "x")) (.cons (.cst (.int 2)) .nil))) .nil))) (.cons (.tup (.cons (.tup (.cons (.cst (.str "x")) .nil)) .nil)) .nil)))))) .nil))) .nil)))))
  (.cons (.asg (.n 10) (.lst true (.cons (.heard "_law_heard" hf__law_heard (.call "shadow" (.cons (.var 11) (.cons (.var 12) .nil)))) .nil)))
  (.cons (.ex (.mth .append (.var 10) (.cons (.heard "_law_heard" hf__law_heard (.call "dark_shadow" (.cons (.var 11) (.cons (.var 12) .nil)))) .nil)))
  (.cons (.ex (.mth .append (.var 10) (.cons (.heard "_law_heard" hf__law_heard (.call "between" (.cons (.var 11) (.cons (.var 12) (.cons (.var 13) .nil))))) .nil)))
  (.cons (.ex (.mth .append (.var 10) (.cons (.heard "_law_heard" hf__law_heard (.call "shadow" (.cons (.var 6) (.cons (.var 12) .nil)))) .nil)))
  (.cons (.ex (.mth .append (.var 10) (.cons (.heard "_law_heard" hf__law_heard (.call "dark_shadow" (.cons (.var 6) (.cons (.var 12) .nil)))) .nil)))
  (.cons (.ex (.mth .append (.var 10) (.cons (.heard "_law_heard" hf__law_heard (.call "between" (.cons (.var 6) (.cons (.var 12) (.cons (.var 13) .nil))))) .nil)))
  (.cons (.ex (.mth .append (.var 10) (.cons (.heard "_law_heard" hf__law_heard (.call "between" (.cons (.var 6) (.cons (.var 3) (.cons (.var 13) .nil))))) .nil)))
  (.cons (.iff (.not (.call "_law_same" (.cons (.frz (.var 10)) (.cons (.bin .add (.bin .add (.bin .mul (.lst false (.cons (.tup (.cons (.cst (.str "form")) (.cons (.cst (.int 0)) .nil))) .nil)) (.cst (.int 3))) (.bin .mul (.lst false (.cons (.tup (.cons (.cst (.str "question")) (.cons (.cst (.int 1)) .nil))) .nil)) (.cst (.int 3)))) (.lst false (.cons (.tup (.cons (.cst (.str "value")) (.cons (.cst (.int 2)) .nil))) .nil))) .nil))))
    ((.cons (.ret (.som (.cst (.bl false))))
      .nil))
    .nil)
  .nil)))))))))))))))))))
def f_law : Fn := ⟨1, 14,
  (.cons (.asg (.n 1) (.call "_law_draw" (.cons (.var 0) (.cons (.cst (.int 21)) .nil))))
  (.cons (.for_ (.n 2) (.rng (.cons (.cst (.int 8)) .nil)) f_law_b0)
  (.cons (.ret (.som (.cst (.bl true))))
  .nil))), false, 2⟩
def tab : List (String × Fn) := [("is_unknown", f_is_unknown), ("are_ascending", f_are_ascending), ("is_integer", f_is_integer), ("is_sequence", f_is_sequence), ("are_worths", f_are_worths), ("is_form", f_is_form), ("checked_worths", f_checked_worths), ("form_of", f_form_of), ("sum_of", f_sum_of), ("factor_in", f_factor_in), ("worth_of", f_worth_of), ("checked_forms", f_checked_forms), ("sides", f_sides), ("crossed", f_crossed), ("checked_question", f_checked_question), ("cast", f_cast), ("shadow", f_shadow), ("dark_shadow", f_dark_shadow), ("bounds_of", f_bounds_of), ("between", f_between), ("_law_draw", f_law_draw), ("_law_any", f_law_any), ("_law_of", f_law_of), ("_law_mixed", f_law_mixed), ("_law_same", f_law_same), ("_law_number", f_law_number), ("_law_sum", f_law_sum), ("_law_form", f_law_form), ("_law_long_form", f_law_long_form), ("_law_worth", f_law_worth), ("_law_worths", f_law_worths), ("_law_forms_wrong", f_law_forms_wrong), ("_law_cast", f_law_cast), ("_law_span", f_law_span), ("_law_bounding", f_law_bounding), ("_law_near", f_law_near), ("_law_kept", f_law_kept), ("law", f_law)]
def T (g : String) : Option Fn := (tab.find? fun p => decide (p.1 = g)).map (·.2)
def mo : Mo := ⟨[("LETTERS", (.str "abcdefghijklmnopqrstuvwxyz")), ("DIGITS", (.str "0123456789")), ("MARKS", (.str "._#")), ("MOST_UNKNOWN", (.int 60)), ("MOST_UNKNOWNS", (.int 200)), ("MOST_WORTHS", (.int 2000))],
  [("is_unknown", none), ("are_ascending", none), ("is_integer", none), ("is_sequence", none), ("are_worths", none), ("is_form", none), ("checked_worths", none), ("form_of", none), ("sum_of", none), ("factor_in", none), ("worth_of", none), ("checked_forms", none), ("sides", none), ("crossed", none), ("checked_question", none), ("cast", none), ("shadow", none), ("dark_shadow", none), ("bounds_of", none), ("between", none), ("_law_draw", none), ("_law_any", none), ("_law_of", none), ("_law_mixed", none), ("_law_same", none), ("_law_number", none), ("_law_sum", none), ("_law_form", none), ("_law_long_form", none), ("_law_worth", none), ("_law_worths", none), ("_law_forms_wrong", none), ("_law_cast", none), ("_law_span", none), ("_law_bounding", none), ("_law_near", none), ("_law_kept", none), ("law", none), ("between", some ([("forms" : Str), ("name" : Str), ("worths" : Str)], [])), ("dark_shadow", some ([("name" : Str), ("forms" : Str)], [1, 0]))],
  [("_law_heard", hf__law_heard)],
  ["InvalidForm", "InvalidFormula", "InvalidQuestion", "InvalidValue", "Refused"]⟩
end K21T
end Z


/-! the head of the law, its defs' texts checked (printed by zprint.py). -/
namespace Z
namespace K21T
open PySem PySem.Spec PyProof.Rows L2
def top (i : Nat) : Stmt := PySem.Challenge.pw_boundbyproof_k21_whole_shadows_and_bound.main.body.getD i (.Pass ⟨0, 0, 0, 0⟩)
def fD (i : Nat) (x : Str) : He.DefD := ⟨(x, none), x, x, defArgs (top i), defBody (top i), defScope (top i), [], []⟩
def fn : List He.DefD := [fD 12 "is_unknown", fD 13 "are_ascending", fD 15 "is_integer", fD 16 "is_sequence", fD 20 "are_worths", fD 21 "is_form", fD 22 "checked_worths", fD 23 "form_of", fD 24 "sum_of", fD 25 "factor_in", fD 26 "worth_of", fD 28 "checked_forms", fD 29 "sides", fD 30 "crossed", fD 31 "checked_question", fD 32 "cast", fD 33 "shadow", fD 34 "dark_shadow", fD 35 "bounds_of", fD 36 "between", fD 38 "_law_draw", fD 39 "_law_any", fD 40 "_law_of", fD 41 "_law_mixed", fD 42 "_law_same", fD 43 "_law_number", fD 44 "_law_sum", fD 45 "_law_form", fD 46 "_law_long_form", fD 47 "_law_worth", fD 48 "_law_worths", fD 49 "_law_heard", fD 50 "_law_forms_wrong", fD 51 "_law_cast", fD 52 "_law_span", fD 53 "_law_bounding", fD 54 "_law_near", fD 55 "_law_kept", fD 56 "law"]
def fa : List He.Fa := [.glo "is_unknown", .glo "are_ascending", .glo "is_integer", .glo "is_sequence", .glo "are_worths", .glo "is_form", .glo "checked_worths", .glo "form_of", .glo "sum_of", .glo "factor_in", .glo "worth_of", .glo "checked_forms", .glo "sides", .glo "crossed", .glo "checked_question", .glo "cast", .glo "shadow", .glo "dark_shadow", .glo "bounds_of", .glo "between", .glo "_law_draw", .glo "_law_any", .glo "_law_of", .glo "_law_mixed", .glo "_law_same", .glo "_law_number", .glo "_law_sum", .glo "_law_form", .glo "_law_long_form", .glo "_law_worth", .glo "_law_worths", .glo "_law_heard", .glo "_law_forms_wrong", .glo "_law_cast", .glo "_law_span", .glo "_law_bounding", .glo "_law_near", .glo "_law_kept", .glo "law", .str "LETTERS" "abcdefghijklmnopqrstuvwxyz", .str "DIGITS" "0123456789", .str "MARKS" "._#", .int "MOST_UNKNOWN" 60, .int "MOST_UNKNOWNS" 200, .int "MOST_WORTHS" 2000, .free "len", .free "abs", .free "int", .free "all", .free "any", .free "sum", .free "max", .free "min", .free "tuple", .free "list", .free "sorted", .free "dict", .free "str", .free "set", .free "isinstance", .free "range", .free "enumerate", .free "zip", .free "bool", .free "NoneType", .free "super"]
def hx : HX := ⟨PySem.Challenge.pw_boundbyproof_k21_whole_shadows_and_bound.main.file, ["InvalidForm", "InvalidFormula", "InvalidQuestion", "InvalidValue", "Refused"], ["law"]⟩
def gt : List GT := []
def names0 : List Str := [("ProofError" : Str), ("InvalidForm" : Str), ("InvalidFormula" : Str), ("InvalidValue" : Str), ("InvalidQuestion" : Str), ("Refused" : Str), ("LETTERS" : Str), ("DIGITS" : Str), ("MARKS" : Str), ("MOST_UNKNOWN" : Str), ("is_unknown" : Str), ("are_ascending" : Str), ("is_integer" : Str), ("is_sequence" : Str), ("MOST_UNKNOWNS" : Str), ("MOST_WORTHS" : Str), ("are_worths" : Str), ("is_form" : Str), ("checked_worths" : Str), ("form_of" : Str), ("sum_of" : Str), ("factor_in" : Str), ("worth_of" : Str), ("checked_forms" : Str), ("sides" : Str), ("crossed" : Str), ("checked_question" : Str), ("cast" : Str), ("shadow" : Str), ("dark_shadow" : Str), ("bounds_of" : Str), ("between" : Str), ("_law_draw" : Str), ("_law_any" : Str), ("_law_of" : Str)]
def names1 : List Str := [("_law_mixed" : Str), ("_law_same" : Str), ("_law_number" : Str), ("_law_sum" : Str), ("_law_form" : Str), ("_law_long_form" : Str), ("_law_worth" : Str), ("_law_worths" : Str), ("_law_heard" : Str), ("_law_forms_wrong" : Str), ("_law_cast" : Str), ("_law_span" : Str), ("_law_bounding" : Str), ("_law_near" : Str), ("_law_kept" : Str)]
def names : List Str := names0 ++ names1
abbrev R : PySem.W.OpenRow := PySem.W.OpenLaw.row PySem.Challenge.rw_boundbyproof_k21_whole_shadows_and_bound
abbrev hk : PySem.W.Hook := hookZ 5 fa fn gt hx
def ob (s : PySem.W.SharedT) : AlZ := obsZG 5 fa fn gt hx (HandSHeadRun.getT s)
theorem ob_eq (s : PySem.W.SharedT) : ob s = hk.obs s.abs := obsZG_eq (HandSHeadRun.getT_eq s)
theorem run (w : World) : HandSHeadRun.RunEq R (PySem.W.view R.prog [56]) hk ob 4000 names w := by
  intro os
  kernel_rfl
def N_is_unknown : List Str := ["value", "sign"]
def P_is_unknown : List Str := ["value"]
theorem sc_is_unknown : FnScope N_is_unknown P_is_unknown (defScope (top 12)) := ⟨by decide +kernel, by decide +kernel, by decide +kernel, by decide +kernel, by decide +kernel, by decide +kernel, by decide +kernel⟩
theorem ck_is_unknown : chkSs (moOf mo f_is_unknown.low) ⟨N_is_unknown, defScope (top 12), fun _ => true⟩ f_is_unknown.body (defBody (top 12)) = true := by decide +kernel
def N_are_ascending : List Str := ["names", "one", "other"]
def P_are_ascending : List Str := ["names"]
theorem sc_are_ascending : FnScope N_are_ascending P_are_ascending (defScope (top 13)) := ⟨by decide +kernel, by decide +kernel, by decide +kernel, by decide +kernel, by decide +kernel, by decide +kernel, by decide +kernel⟩
theorem ck_are_ascending : chkSs (moOf mo f_are_ascending.low) ⟨N_are_ascending, defScope (top 13), fun _ => true⟩ f_are_ascending.body (defBody (top 13)) = true := by decide +kernel
def N_is_integer : List Str := ["value"]
def P_is_integer : List Str := ["value"]
theorem sc_is_integer : FnScope N_is_integer P_is_integer (defScope (top 15)) := ⟨by decide +kernel, by decide +kernel, by decide +kernel, by decide +kernel, by decide +kernel, by decide +kernel, by decide +kernel⟩
theorem ck_is_integer : chkSs (moOf mo f_is_integer.low) ⟨N_is_integer, defScope (top 15), fun _ => true⟩ f_is_integer.body (defBody (top 15)) = true := by decide +kernel
def N_is_sequence : List Str := ["value"]
def P_is_sequence : List Str := ["value"]
theorem sc_is_sequence : FnScope N_is_sequence P_is_sequence (defScope (top 16)) := ⟨by decide +kernel, by decide +kernel, by decide +kernel, by decide +kernel, by decide +kernel, by decide +kernel, by decide +kernel⟩
theorem ck_is_sequence : chkSs (moOf mo f_is_sequence.low) ⟨N_is_sequence, defScope (top 16), fun _ => true⟩ f_is_sequence.body (defBody (top 16)) = true := by decide +kernel
def N_are_worths : List Str := ["value", "most", "one"]
def P_are_worths : List Str := ["value", "most"]
theorem sc_are_worths : FnScope N_are_worths P_are_worths (defScope (top 20)) := ⟨by decide +kernel, by decide +kernel, by decide +kernel, by decide +kernel, by decide +kernel, by decide +kernel, by decide +kernel⟩
theorem ck_are_worths : chkSs (moOf mo f_are_worths.low) ⟨N_are_worths, defScope (top 20), fun _ => true⟩ f_are_worths.body (defBody (top 20)) = true := by decide +kernel
def N_is_form : List Str := ["value", "one"]
def P_is_form : List Str := ["value"]
theorem sc_is_form : FnScope N_is_form P_is_form (defScope (top 21)) := ⟨by decide +kernel, by decide +kernel, by decide +kernel, by decide +kernel, by decide +kernel, by decide +kernel, by decide +kernel⟩
theorem ck_is_form : chkSs (moOf mo f_is_form.low) ⟨N_is_form, defScope (top 21), fun _ => true⟩ f_is_form.body (defBody (top 21)) = true := by decide +kernel
def N_checked_worths : List Str := ["worths", "at"]
def P_checked_worths : List Str := ["worths", "at"]
theorem sc_checked_worths : FnScope N_checked_worths P_checked_worths (defScope (top 22)) := ⟨by decide +kernel, by decide +kernel, by decide +kernel, by decide +kernel, by decide +kernel, by decide +kernel, by decide +kernel⟩
theorem ck_checked_worths : chkSs (moOf mo f_checked_worths.low) ⟨N_checked_worths, defScope (top 22), fun _ => true⟩ f_checked_worths.body (defBody (top 22)) = true := by decide +kernel
def N_form_of : List Str := ["constant", "factors", "name"]
def P_form_of : List Str := ["constant", "factors"]
theorem sc_form_of : FnScope N_form_of P_form_of (defScope (top 23)) := ⟨by decide +kernel, by decide +kernel, by decide +kernel, by decide +kernel, by decide +kernel, by decide +kernel, by decide +kernel⟩
theorem ck_form_of : chkSs (moOf mo f_form_of.low) ⟨N_form_of, defScope (top 23), fun _ => true⟩ f_form_of.body (defBody (top 23)) = true := by decide +kernel
def N_sum_of : List Str := ["pairs", "number", "factors", "form", "often", "name", "factor"]
def P_sum_of : List Str := ["pairs"]
theorem sc_sum_of : FnScope N_sum_of P_sum_of (defScope (top 24)) := ⟨by decide +kernel, by decide +kernel, by decide +kernel, by decide +kernel, by decide +kernel, by decide +kernel, by decide +kernel⟩
theorem ck_sum_of : chkSs (moOf mo f_sum_of.low) ⟨N_sum_of, defScope (top 24), fun _ => true⟩ f_sum_of.body (defBody (top 24)) = true := by decide +kernel
def N_factor_in : List Str := ["form", "name", "known", "factor"]
def P_factor_in : List Str := ["form", "name"]
theorem sc_factor_in : FnScope N_factor_in P_factor_in (defScope (top 25)) := ⟨by decide +kernel, by decide +kernel, by decide +kernel, by decide +kernel, by decide +kernel, by decide +kernel, by decide +kernel⟩
theorem ck_factor_in : chkSs (moOf mo f_factor_in.low) ⟨N_factor_in, defScope (top 25), fun _ => true⟩ f_factor_in.body (defBody (top 25)) = true := by decide +kernel
def N_worth_of : List Str := ["form", "worths", "name", "factor"]
def P_worth_of : List Str := ["form", "worths"]
theorem sc_worth_of : FnScope N_worth_of P_worth_of (defScope (top 26)) := ⟨by decide +kernel, by decide +kernel, by decide +kernel, by decide +kernel, by decide +kernel, by decide +kernel, by decide +kernel⟩
theorem ck_worth_of : chkSs (moOf mo f_worth_of.low) ⟨N_worth_of, defScope (top 26), fun _ => true⟩ f_worth_of.body (defBody (top 26)) = true := by decide +kernel
def N_checked_forms : List Str := ["forms", "at", "form"]
def P_checked_forms : List Str := ["forms", "at"]
theorem sc_checked_forms : FnScope N_checked_forms P_checked_forms (defScope (top 28)) := ⟨by decide +kernel, by decide +kernel, by decide +kernel, by decide +kernel, by decide +kernel, by decide +kernel, by decide +kernel⟩
theorem ck_checked_forms : chkSs (moOf mo f_checked_forms.low) ⟨N_checked_forms, defScope (top 28), fun _ => true⟩ f_checked_forms.body (defBody (top 28)) = true := by decide +kernel
def N_sides : List Str := ["forms", "name", "found", "form", "factor"]
def P_sides : List Str := ["forms", "name"]
theorem sc_sides : FnScope N_sides P_sides (defScope (top 29)) := ⟨by decide +kernel, by decide +kernel, by decide +kernel, by decide +kernel, by decide +kernel, by decide +kernel, by decide +kernel⟩
theorem ck_sides : chkSs (moOf mo f_sides.low) ⟨N_sides, defScope (top 29), fun _ => true⟩ f_sides.body (defBody (top 29)) = true := by decide +kernel
def N_crossed : List Str := ["low", "high", "name", "dark", "less", "over", "under"]
def P_crossed : List Str := ["low", "high", "name", "dark"]
theorem sc_crossed : FnScope N_crossed P_crossed (defScope (top 30)) := ⟨by decide +kernel, by decide +kernel, by decide +kernel, by decide +kernel, by decide +kernel, by decide +kernel, by decide +kernel⟩
theorem ck_crossed : chkSs (moOf mo f_crossed.low) ⟨N_crossed, defScope (top 30), fun _ => true⟩ f_crossed.body (defBody (top 30)) = true := by decide +kernel
def N_checked_question : List Str := ["forms", "name"]
def P_checked_question : List Str := ["forms", "name"]
theorem sc_checked_question : FnScope N_checked_question P_checked_question (defScope (top 31)) := ⟨by decide +kernel, by decide +kernel, by decide +kernel, by decide +kernel, by decide +kernel, by decide +kernel, by decide +kernel⟩
theorem ck_checked_question : chkSs (moOf mo f_checked_question.low) ⟨N_checked_question, defScope (top 31), fun _ => true⟩ f_checked_question.body (defBody (top 31)) = true := by decide +kernel
def N_cast : List Str := ["forms", "name", "dark", "rest", "lows", "highs", "low", "high"]
def P_cast : List Str := ["forms", "name", "dark"]
theorem sc_cast : FnScope N_cast P_cast (defScope (top 32)) := ⟨by decide +kernel, by decide +kernel, by decide +kernel, by decide +kernel, by decide +kernel, by decide +kernel, by decide +kernel⟩
theorem ck_cast : chkSs (moOf mo f_cast.low) ⟨N_cast, defScope (top 32), fun _ => true⟩ f_cast.body (defBody (top 32)) = true := by decide +kernel
def N_shadow : List Str := ["forms", "name"]
def P_shadow : List Str := ["forms", "name"]
theorem sc_shadow : FnScope N_shadow P_shadow (defScope (top 33)) := ⟨by decide +kernel, by decide +kernel, by decide +kernel, by decide +kernel, by decide +kernel, by decide +kernel, by decide +kernel⟩
theorem ck_shadow : chkSs (moOf mo f_shadow.low) ⟨N_shadow, defScope (top 33), fun _ => true⟩ f_shadow.body (defBody (top 33)) = true := by decide +kernel
def N_dark_shadow : List Str := ["forms", "name"]
def P_dark_shadow : List Str := ["forms", "name"]
theorem sc_dark_shadow : FnScope N_dark_shadow P_dark_shadow (defScope (top 34)) := ⟨by decide +kernel, by decide +kernel, by decide +kernel, by decide +kernel, by decide +kernel, by decide +kernel, by decide +kernel⟩
theorem ck_dark_shadow : chkSs (moOf mo f_dark_shadow.low) ⟨N_dark_shadow, defScope (top 34), fun _ => true⟩ f_dark_shadow.body (defBody (top 34)) = true := by decide +kernel
def N_bounds_of : List Str := ["forms", "name", "worths", "form", "least", "most", "factor", "rest"]
def P_bounds_of : List Str := ["forms", "name", "worths"]
theorem sc_bounds_of : FnScope N_bounds_of P_bounds_of (defScope (top 35)) := ⟨by decide +kernel, by decide +kernel, by decide +kernel, by decide +kernel, by decide +kernel, by decide +kernel, by decide +kernel⟩
theorem ck_bounds_of : chkSs (moOf mo f_bounds_of.low) ⟨N_bounds_of, defScope (top 35), fun _ => true⟩ f_bounds_of.body (defBody (top 35)) = true := by decide +kernel
def N_between : List Str := ["forms", "name", "worths", "known", "least", "most", "form"]
def P_between : List Str := ["forms", "name", "worths"]
theorem sc_between : FnScope N_between P_between (defScope (top 36)) := ⟨by decide +kernel, by decide +kernel, by decide +kernel, by decide +kernel, by decide +kernel, by decide +kernel, by decide +kernel⟩
theorem ck_between : chkSs (moOf mo f_between.low) ⟨N_between, defScope (top 36), fun _ => true⟩ f_between.body (defBody (top 36)) = true := by decide +kernel
def N__law_draw : List Str := ["script", "salt", "cells", "blend", "cell"]
def P__law_draw : List Str := ["script", "salt"]
theorem sc__law_draw : FnScope N__law_draw P__law_draw (defScope (top 38)) := ⟨by decide +kernel, by decide +kernel, by decide +kernel, by decide +kernel, by decide +kernel, by decide +kernel, by decide +kernel⟩
theorem ck__law_draw : chkSs (moOf mo f_law_draw.low) ⟨N__law_draw, defScope (top 38), fun _ => true⟩ f_law_draw.body (defBody (top 38)) = true := by decide +kernel
def N__law_any : List Str := ["deal", "bound", "rest"]
def P__law_any : List Str := ["deal", "bound"]
theorem sc__law_any : FnScope N__law_any P__law_any (defScope (top 39)) := ⟨by decide +kernel, by decide +kernel, by decide +kernel, by decide +kernel, by decide +kernel, by decide +kernel, by decide +kernel⟩
theorem ck__law_any : chkSs (moOf mo f_law_any.low) ⟨N__law_any, defScope (top 39), fun _ => true⟩ f_law_any.body (defBody (top 39)) = true := by decide +kernel
def N__law_of : List Str := ["deal", "some"]
def P__law_of : List Str := ["deal", "some"]
theorem sc__law_of : FnScope N__law_of P__law_of (defScope (top 40)) := ⟨by decide +kernel, by decide +kernel, by decide +kernel, by decide +kernel, by decide +kernel, by decide +kernel, by decide +kernel⟩
theorem ck__law_of : chkSs (moOf mo f_law_of.low) ⟨N__law_of, defScope (top 40), fun _ => true⟩ f_law_of.body (defBody (top 40)) = true := by decide +kernel
def N__law_mixed : List Str := ["deal", "some", "left", "found"]
def P__law_mixed : List Str := ["deal", "some"]
theorem sc__law_mixed : FnScope N__law_mixed P__law_mixed (defScope (top 41)) := ⟨by decide +kernel, by decide +kernel, by decide +kernel, by decide +kernel, by decide +kernel, by decide +kernel, by decide +kernel⟩
theorem ck__law_mixed : chkSs (moOf mo f_law_mixed.low) ⟨N__law_mixed, defScope (top 41), fun _ => true⟩ f_law_mixed.body (defBody (top 41)) = true := by decide +kernel
def N__law_same : List Str := ["value", "due", "one", "other"]
def P__law_same : List Str := ["value", "due"]
theorem sc__law_same : FnScope N__law_same P__law_same (defScope (top 42)) := ⟨by decide +kernel, by decide +kernel, by decide +kernel, by decide +kernel, by decide +kernel, by decide +kernel, by decide +kernel⟩
theorem ck__law_same : chkSs (moOf mo f_law_same.low) ⟨N__law_same, defScope (top 42), fun _ => true⟩ f_law_same.body (defBody (top 42)) = true := by decide +kernel
def N__law_number : List Str := ["deal"]
def P__law_number : List Str := ["deal"]
theorem sc__law_number : FnScope N__law_number P__law_number (defScope (top 43)) := ⟨by decide +kernel, by decide +kernel, by decide +kernel, by decide +kernel, by decide +kernel, by decide +kernel, by decide +kernel⟩
theorem ck__law_number : chkSs (moOf mo f_law_number.low) ⟨N__law_number, defScope (top 43), fun _ => true⟩ f_law_number.body (defBody (top 43)) = true := by decide +kernel
def N__law_sum : List Str := ["pairs", "constant", "factors", "form", "often", "name", "factor"]
def P__law_sum : List Str := ["pairs"]
theorem sc__law_sum : FnScope N__law_sum P__law_sum (defScope (top 44)) := ⟨by decide +kernel, by decide +kernel, by decide +kernel, by decide +kernel, by decide +kernel, by decide +kernel, by decide +kernel⟩
theorem ck__law_sum : chkSs (moOf mo f_law_sum.low) ⟨N__law_sum, defScope (top 44), fun _ => true⟩ f_law_sum.body (defBody (top 44)) = true := by decide +kernel
def N__law_form : List Str := ["deal", "names", "some", "name"]
def P__law_form : List Str := ["deal", "names"]
theorem sc__law_form : FnScope N__law_form P__law_form (defScope (top 45)) := ⟨by decide +kernel, by decide +kernel, by decide +kernel, by decide +kernel, by decide +kernel, by decide +kernel, by decide +kernel⟩
theorem ck__law_form : chkSs (moOf mo f_law_form.low) ⟨N__law_form, defScope (top 45), fun _ => true⟩ f_law_form.body (defBody (top 45)) = true := by decide +kernel
def N__law_long_form : List Str := ["deal", "names", "some", "name"]
def P__law_long_form : List Str := ["deal", "names"]
theorem sc__law_long_form : FnScope N__law_long_form P__law_long_form (defScope (top 46)) := ⟨by decide +kernel, by decide +kernel, by decide +kernel, by decide +kernel, by decide +kernel, by decide +kernel, by decide +kernel⟩
theorem ck__law_long_form : chkSs (moOf mo f_law_long_form.low) ⟨N__law_long_form, defScope (top 46), fun _ => true⟩ f_law_long_form.body (defBody (top 46)) = true := by decide +kernel
def N__law_worth : List Str := ["form", "facts", "name", "factor"]
def P__law_worth : List Str := ["form", "facts"]
theorem sc__law_worth : FnScope N__law_worth P__law_worth (defScope (top 47)) := ⟨by decide +kernel, by decide +kernel, by decide +kernel, by decide +kernel, by decide +kernel, by decide +kernel, by decide +kernel⟩
theorem ck__law_worth : chkSs (moOf mo f_law_worth.low) ⟨N__law_worth, defScope (top 47), fun _ => true⟩ f_law_worth.body (defBody (top 47)) = true := by decide +kernel
def N__law_worths : List Str := ["deal", "names", "some", "name"]
def P__law_worths : List Str := ["deal", "names"]
theorem sc__law_worths : FnScope N__law_worths P__law_worths (defScope (top 48)) := ⟨by decide +kernel, by decide +kernel, by decide +kernel, by decide +kernel, by decide +kernel, by decide +kernel, by decide +kernel⟩
theorem ck__law_worths : chkSs (moOf mo f_law_worths.low) ⟨N__law_worths, defScope (top 48), fun _ => true⟩ f_law_worths.body (defBody (top 48)) = true := by decide +kernel
def N__law_heard : List Str := ["work", "wrong", "told"]
def P__law_heard : List Str := ["work"]
theorem sc__law_heard : FnScope N__law_heard P__law_heard (defScope (top 49)) := ⟨by decide +kernel, by decide +kernel, by decide +kernel, by decide +kernel, by decide +kernel, by decide +kernel, by decide +kernel⟩
theorem ck__law_heard : heardC (defScope (top 49)) "work" "wrong" "told" hf__law_heard (defBody (top 49)) = true := by decide +kernel
theorem cl__law_heard : locS (defScope (top 49)) "work" = true ∧ locS (defScope (top 49)) "wrong" = true ∧ locS (defScope (top 49)) "told" = true := by decide +kernel
def N__law_forms_wrong : List Str := ["deal"]
def P__law_forms_wrong : List Str := ["deal"]
theorem sc__law_forms_wrong : FnScope N__law_forms_wrong P__law_forms_wrong (defScope (top 50)) := ⟨by decide +kernel, by decide +kernel, by decide +kernel, by decide +kernel, by decide +kernel, by decide +kernel, by decide +kernel⟩
theorem ck__law_forms_wrong : chkSs (moOf mo f_law_forms_wrong.low) ⟨N__law_forms_wrong, defScope (top 50), fun _ => true⟩ f_law_forms_wrong.body (defBody (top 50)) = true := by decide +kernel
def N__law_cast : List Str := ["forms", "name", "dark", "found", "lows", "low", "high", "form", "gap", "over", "under"]
def P__law_cast : List Str := ["forms", "name", "dark"]
theorem sc__law_cast : FnScope N__law_cast P__law_cast (defScope (top 51)) := ⟨by decide +kernel, by decide +kernel, by decide +kernel, by decide +kernel, by decide +kernel, by decide +kernel, by decide +kernel⟩
theorem ck__law_cast : chkSs (moOf mo f_law_cast.low) ⟨N__law_cast, defScope (top 51), fun _ => true⟩ f_law_cast.body (defBody (top 51)) = true := by decide +kernel
def N__law_span : List Str := ["forms", "name", "facts", "form", "least", "most", "factor", "rest", "one", "number"]
def P__law_span : List Str := ["forms", "name", "facts"]
theorem sc__law_span : FnScope N__law_span P__law_span (defScope (top 52)) := ⟨by decide +kernel, by decide +kernel, by decide +kernel, by decide +kernel, by decide +kernel, by decide +kernel, by decide +kernel⟩
theorem ck__law_span : chkSs (moOf mo f_law_span.low) ⟨N__law_span, defScope (top 52), fun _ => true⟩ f_law_span.body (defBody (top 52)) = true := by decide +kernel
def N__law_bounding : List Str := ["deal", "name", "others", "forms", "turn", "form", "factor"]
def P__law_bounding : List Str := ["deal", "name", "others"]
theorem sc__law_bounding : FnScope N__law_bounding P__law_bounding (defScope (top 53)) := ⟨by decide +kernel, by decide +kernel, by decide +kernel, by decide +kernel, by decide +kernel, by decide +kernel, by decide +kernel⟩
theorem ck__law_bounding : chkSs (moOf mo f_law_bounding.low) ⟨N__law_bounding, defScope (top 53), fun _ => true⟩ f_law_bounding.body (defBody (top 53)) = true := by decide +kernel
def N__law_near : List Str := ["deal", "forms", "name", "worths", "facts", "form"]
def P__law_near : List Str := ["deal", "forms", "name", "worths"]
theorem sc__law_near : FnScope N__law_near P__law_near (defScope (top 54)) := ⟨by decide +kernel, by decide +kernel, by decide +kernel, by decide +kernel, by decide +kernel, by decide +kernel, by decide +kernel⟩
theorem ck__law_near : chkSs (moOf mo f_law_near.low) ⟨N__law_near, defScope (top 54), fun _ => true⟩ f_law_near.body (defBody (top 54)) = true := by decide +kernel
def N__law_kept : List Str := ["forms", "name", "facts", "span", "bright", "dark", "form", "one"]
def P__law_kept : List Str := ["forms", "name", "facts", "span"]
theorem sc__law_kept : FnScope N__law_kept P__law_kept (defScope (top 55)) := ⟨by decide +kernel, by decide +kernel, by decide +kernel, by decide +kernel, by decide +kernel, by decide +kernel, by decide +kernel⟩
theorem ck__law_kept : chkSs (moOf mo f_law_kept.low) ⟨N__law_kept, defScope (top 55), fun _ => true⟩ f_law_kept.body (defBody (top 55)) = true := by decide +kernel
def N_law : List Str := ["script", "deal", "turn", "name", "others", "worths", "forms", "given", "told", "span", "heard", "bad", "odd", "worse"]
def P_law : List Str := ["script"]
theorem sc_law : FnScope N_law P_law (defScope (top 56)) := ⟨by decide +kernel, by decide +kernel, by decide +kernel, by decide +kernel, by decide +kernel, by decide +kernel, by decide +kernel⟩
theorem ck_law : chkSs (moOf mo f_law.low) ⟨N_law, defScope (top 56), fun _ => true⟩ f_law.body (defBody (top 56)) = true := by decide +kernel
end K21T
end Z


/-! the table of the law's defs stands in the module (printed by zprint.py). -/
namespace Z
namespace K21T
open PySem PySem.Spec PyProof.Rows L2
section
variable {KB K : PySem.W.Frag} {h : Heap} {mg : Str → Option Value}
theorem df_is_unknown (X : K.In h) (G : h.Ns mainGlobals mg) (z : SaysZ fa fn gt hx KB K) (c : He.SaysD fa fn K) : DefT K mg T mo "is_unknown" := by
  obtain ⟨fd, F⟩ := c.def_ 0 (d := fD 12 "is_unknown") rfl
  exact ⟨f_is_unknown, _, fd, _, _, _, _, _, N_is_unknown, P_is_unknown, by rfl, F, sc_is_unknown, rfl, rfl, ck_is_unknown, He.glo_ok X G (c.fact 0 (f := .glo "is_unknown") rfl), kw_of (L := [none]) (by decide +kernel) (fm (kw_pos F fun _ _ _ _ _ _ us hl => match us, hl with | [_], _ => rfl) fz), fun e => absurd e (by decide)⟩
theorem df_are_ascending (X : K.In h) (G : h.Ns mainGlobals mg) (z : SaysZ fa fn gt hx KB K) (c : He.SaysD fa fn K) : DefT K mg T mo "are_ascending" := by
  obtain ⟨fd, F⟩ := c.def_ 1 (d := fD 13 "are_ascending") rfl
  exact ⟨f_are_ascending, _, fd, _, _, _, _, _, N_are_ascending, P_are_ascending, by rfl, F, sc_are_ascending, rfl, rfl, ck_are_ascending, He.glo_ok X G (c.fact 1 (f := .glo "are_ascending") rfl), kw_of (L := [none]) (by decide +kernel) (fm (kw_pos F fun _ _ _ _ _ _ us hl => match us, hl with | [_], _ => rfl) fz), fun e => absurd e (by decide)⟩
theorem df_is_integer (X : K.In h) (G : h.Ns mainGlobals mg) (z : SaysZ fa fn gt hx KB K) (c : He.SaysD fa fn K) : DefT K mg T mo "is_integer" := by
  obtain ⟨fd, F⟩ := c.def_ 2 (d := fD 15 "is_integer") rfl
  exact ⟨f_is_integer, _, fd, _, _, _, _, _, N_is_integer, P_is_integer, by rfl, F, sc_is_integer, rfl, rfl, ck_is_integer, He.glo_ok X G (c.fact 2 (f := .glo "is_integer") rfl), kw_of (L := [none]) (by decide +kernel) (fm (kw_pos F fun _ _ _ _ _ _ us hl => match us, hl with | [_], _ => rfl) fz), fun e => absurd e (by decide)⟩
theorem df_is_sequence (X : K.In h) (G : h.Ns mainGlobals mg) (z : SaysZ fa fn gt hx KB K) (c : He.SaysD fa fn K) : DefT K mg T mo "is_sequence" := by
  obtain ⟨fd, F⟩ := c.def_ 3 (d := fD 16 "is_sequence") rfl
  exact ⟨f_is_sequence, _, fd, _, _, _, _, _, N_is_sequence, P_is_sequence, by rfl, F, sc_is_sequence, rfl, rfl, ck_is_sequence, He.glo_ok X G (c.fact 3 (f := .glo "is_sequence") rfl), kw_of (L := [none]) (by decide +kernel) (fm (kw_pos F fun _ _ _ _ _ _ us hl => match us, hl with | [_], _ => rfl) fz), fun e => absurd e (by decide)⟩
theorem df_are_worths (X : K.In h) (G : h.Ns mainGlobals mg) (z : SaysZ fa fn gt hx KB K) (c : He.SaysD fa fn K) : DefT K mg T mo "are_worths" := by
  obtain ⟨fd, F⟩ := c.def_ 4 (d := fD 20 "are_worths") rfl
  exact ⟨f_are_worths, _, fd, _, _, _, _, _, N_are_worths, P_are_worths, by rfl, F, sc_are_worths, rfl, rfl, ck_are_worths, He.glo_ok X G (c.fact 4 (f := .glo "are_worths") rfl), kw_of (L := [none]) (by decide +kernel) (fm (kw_pos F fun _ _ _ _ _ _ us hl => match us, hl with | [_, _], _ => rfl) fz), fun e => absurd e (by decide)⟩
theorem df_is_form (X : K.In h) (G : h.Ns mainGlobals mg) (z : SaysZ fa fn gt hx KB K) (c : He.SaysD fa fn K) : DefT K mg T mo "is_form" := by
  obtain ⟨fd, F⟩ := c.def_ 5 (d := fD 21 "is_form") rfl
  exact ⟨f_is_form, _, fd, _, _, _, _, _, N_is_form, P_is_form, by rfl, F, sc_is_form, rfl, rfl, ck_is_form, He.glo_ok X G (c.fact 5 (f := .glo "is_form") rfl), kw_of (L := [none]) (by decide +kernel) (fm (kw_pos F fun _ _ _ _ _ _ us hl => match us, hl with | [_], _ => rfl) fz), fun e => absurd e (by decide)⟩
theorem df_checked_worths (X : K.In h) (G : h.Ns mainGlobals mg) (z : SaysZ fa fn gt hx KB K) (c : He.SaysD fa fn K) : DefT K mg T mo "checked_worths" := by
  obtain ⟨fd, F⟩ := c.def_ 6 (d := fD 22 "checked_worths") rfl
  exact ⟨f_checked_worths, _, fd, _, _, _, _, _, N_checked_worths, P_checked_worths, by rfl, F, sc_checked_worths, rfl, rfl, ck_checked_worths, He.glo_ok X G (c.fact 6 (f := .glo "checked_worths") rfl), kw_of (L := [none]) (by decide +kernel) (fm (kw_pos F fun _ _ _ _ _ _ us hl => match us, hl with | [_, _], _ => rfl) fz), fun e => absurd e (by decide)⟩
theorem df_form_of (X : K.In h) (G : h.Ns mainGlobals mg) (z : SaysZ fa fn gt hx KB K) (c : He.SaysD fa fn K) : DefT K mg T mo "form_of" := by
  obtain ⟨fd, F⟩ := c.def_ 7 (d := fD 23 "form_of") rfl
  exact ⟨f_form_of, _, fd, _, _, _, _, _, N_form_of, P_form_of, by rfl, F, sc_form_of, rfl, rfl, ck_form_of, He.glo_ok X G (c.fact 7 (f := .glo "form_of") rfl), kw_of (L := [none]) (by decide +kernel) (fm (kw_pos F fun _ _ _ _ _ _ us hl => match us, hl with | [_, _], _ => rfl) fz), fun e => absurd e (by decide)⟩
theorem df_sum_of (X : K.In h) (G : h.Ns mainGlobals mg) (z : SaysZ fa fn gt hx KB K) (c : He.SaysD fa fn K) : DefT K mg T mo "sum_of" := by
  obtain ⟨fd, F⟩ := c.def_ 8 (d := fD 24 "sum_of") rfl
  exact ⟨f_sum_of, _, fd, _, _, _, _, _, N_sum_of, P_sum_of, by rfl, F, sc_sum_of, rfl, rfl, ck_sum_of, He.glo_ok X G (c.fact 8 (f := .glo "sum_of") rfl), kw_of (L := [none]) (by decide +kernel) (fm (kw_pos F fun _ _ _ _ _ _ us hl => match us, hl with | [_], _ => rfl) fz), fun e => absurd e (by decide)⟩
theorem df_factor_in (X : K.In h) (G : h.Ns mainGlobals mg) (z : SaysZ fa fn gt hx KB K) (c : He.SaysD fa fn K) : DefT K mg T mo "factor_in" := by
  obtain ⟨fd, F⟩ := c.def_ 9 (d := fD 25 "factor_in") rfl
  exact ⟨f_factor_in, _, fd, _, _, _, _, _, N_factor_in, P_factor_in, by rfl, F, sc_factor_in, rfl, rfl, ck_factor_in, He.glo_ok X G (c.fact 9 (f := .glo "factor_in") rfl), kw_of (L := [none]) (by decide +kernel) (fm (kw_pos F fun _ _ _ _ _ _ us hl => match us, hl with | [_, _], _ => rfl) fz), fun e => absurd e (by decide)⟩
theorem df_worth_of (X : K.In h) (G : h.Ns mainGlobals mg) (z : SaysZ fa fn gt hx KB K) (c : He.SaysD fa fn K) : DefT K mg T mo "worth_of" := by
  obtain ⟨fd, F⟩ := c.def_ 10 (d := fD 26 "worth_of") rfl
  exact ⟨f_worth_of, _, fd, _, _, _, _, _, N_worth_of, P_worth_of, by rfl, F, sc_worth_of, rfl, rfl, ck_worth_of, He.glo_ok X G (c.fact 10 (f := .glo "worth_of") rfl), kw_of (L := [none]) (by decide +kernel) (fm (kw_pos F fun _ _ _ _ _ _ us hl => match us, hl with | [_, _], _ => rfl) fz), fun e => absurd e (by decide)⟩
theorem df_checked_forms (X : K.In h) (G : h.Ns mainGlobals mg) (z : SaysZ fa fn gt hx KB K) (c : He.SaysD fa fn K) : DefT K mg T mo "checked_forms" := by
  obtain ⟨fd, F⟩ := c.def_ 11 (d := fD 28 "checked_forms") rfl
  exact ⟨f_checked_forms, _, fd, _, _, _, _, _, N_checked_forms, P_checked_forms, by rfl, F, sc_checked_forms, rfl, rfl, ck_checked_forms, He.glo_ok X G (c.fact 11 (f := .glo "checked_forms") rfl), kw_of (L := [none]) (by decide +kernel) (fm (kw_pos F fun _ _ _ _ _ _ us hl => match us, hl with | [_, _], _ => rfl) fz), fun e => absurd e (by decide)⟩
theorem df_sides (X : K.In h) (G : h.Ns mainGlobals mg) (z : SaysZ fa fn gt hx KB K) (c : He.SaysD fa fn K) : DefT K mg T mo "sides" := by
  obtain ⟨fd, F⟩ := c.def_ 12 (d := fD 29 "sides") rfl
  exact ⟨f_sides, _, fd, _, _, _, _, _, N_sides, P_sides, by rfl, F, sc_sides, rfl, rfl, ck_sides, He.glo_ok X G (c.fact 12 (f := .glo "sides") rfl), kw_of (L := [none]) (by decide +kernel) (fm (kw_pos F fun _ _ _ _ _ _ us hl => match us, hl with | [_, _], _ => rfl) fz), fun e => absurd e (by decide)⟩
theorem df_crossed (X : K.In h) (G : h.Ns mainGlobals mg) (z : SaysZ fa fn gt hx KB K) (c : He.SaysD fa fn K) : DefT K mg T mo "crossed" := by
  obtain ⟨fd, F⟩ := c.def_ 13 (d := fD 30 "crossed") rfl
  exact ⟨f_crossed, _, fd, _, _, _, _, _, N_crossed, P_crossed, by rfl, F, sc_crossed, rfl, rfl, ck_crossed, He.glo_ok X G (c.fact 13 (f := .glo "crossed") rfl), kw_of (L := [none]) (by decide +kernel) (fm (kw_pos F fun _ _ _ _ _ _ us hl => match us, hl with | [_, _, _, _], _ => rfl) fz), fun e => absurd e (by decide)⟩
theorem df_checked_question (X : K.In h) (G : h.Ns mainGlobals mg) (z : SaysZ fa fn gt hx KB K) (c : He.SaysD fa fn K) : DefT K mg T mo "checked_question" := by
  obtain ⟨fd, F⟩ := c.def_ 14 (d := fD 31 "checked_question") rfl
  exact ⟨f_checked_question, _, fd, _, _, _, _, _, N_checked_question, P_checked_question, by rfl, F, sc_checked_question, rfl, rfl, ck_checked_question, He.glo_ok X G (c.fact 14 (f := .glo "checked_question") rfl), kw_of (L := [none]) (by decide +kernel) (fm (kw_pos F fun _ _ _ _ _ _ us hl => match us, hl with | [_, _], _ => rfl) fz), fun e => absurd e (by decide)⟩
theorem df_cast (X : K.In h) (G : h.Ns mainGlobals mg) (z : SaysZ fa fn gt hx KB K) (c : He.SaysD fa fn K) : DefT K mg T mo "cast" := by
  obtain ⟨fd, F⟩ := c.def_ 15 (d := fD 32 "cast") rfl
  exact ⟨f_cast, _, fd, _, _, _, _, _, N_cast, P_cast, by rfl, F, sc_cast, rfl, rfl, ck_cast, He.glo_ok X G (c.fact 15 (f := .glo "cast") rfl), kw_of (L := [none]) (by decide +kernel) (fm (kw_pos F fun _ _ _ _ _ _ us hl => match us, hl with | [_, _, _], _ => rfl) fz), fun e => absurd e (by decide)⟩
theorem df_shadow (X : K.In h) (G : h.Ns mainGlobals mg) (z : SaysZ fa fn gt hx KB K) (c : He.SaysD fa fn K) : DefT K mg T mo "shadow" := by
  obtain ⟨fd, F⟩ := c.def_ 16 (d := fD 33 "shadow") rfl
  exact ⟨f_shadow, _, fd, _, _, _, _, _, N_shadow, P_shadow, by rfl, F, sc_shadow, rfl, rfl, ck_shadow, He.glo_ok X G (c.fact 16 (f := .glo "shadow") rfl), kw_of (L := [none]) (by decide +kernel) (fm (kw_pos F fun _ _ _ _ _ _ us hl => match us, hl with | [_, _], _ => rfl) fz), fun e => absurd e (by decide)⟩
theorem df_dark_shadow (X : K.In h) (G : h.Ns mainGlobals mg) (z : SaysZ fa fn gt hx KB K) (c : He.SaysD fa fn K) : DefT K mg T mo "dark_shadow" := by
  obtain ⟨fd, F⟩ := c.def_ 17 (d := fD 34 "dark_shadow") rfl
  exact ⟨f_dark_shadow, _, fd, _, _, _, _, _, N_dark_shadow, P_dark_shadow, by rfl, F, sc_dark_shadow, rfl, rfl, ck_dark_shadow, He.glo_ok X G (c.fact 17 (f := .glo "dark_shadow") rfl), kw_of (L := [none, some ([("name" : Str), ("forms" : Str)], [1, 0])]) (by decide +kernel) (fm (kw_pos F fun _ _ _ _ _ _ us hl => match us, hl with | [_, _], _ => rfl) (fm (kw_kw (a := 0) rfl rfl F fun _ _ _ _ _ _ us ws h1 h2 => match us, ws, h1, h2 with | [], [_, _], _, _ => rfl) fz)), fun e => absurd e (by decide)⟩
theorem df_bounds_of (X : K.In h) (G : h.Ns mainGlobals mg) (z : SaysZ fa fn gt hx KB K) (c : He.SaysD fa fn K) : DefT K mg T mo "bounds_of" := by
  obtain ⟨fd, F⟩ := c.def_ 18 (d := fD 35 "bounds_of") rfl
  exact ⟨f_bounds_of, _, fd, _, _, _, _, _, N_bounds_of, P_bounds_of, by rfl, F, sc_bounds_of, rfl, rfl, ck_bounds_of, He.glo_ok X G (c.fact 18 (f := .glo "bounds_of") rfl), kw_of (L := [none]) (by decide +kernel) (fm (kw_pos F fun _ _ _ _ _ _ us hl => match us, hl with | [_, _, _], _ => rfl) fz), fun e => absurd e (by decide)⟩
theorem df_between (X : K.In h) (G : h.Ns mainGlobals mg) (z : SaysZ fa fn gt hx KB K) (c : He.SaysD fa fn K) : DefT K mg T mo "between" := by
  obtain ⟨fd, F⟩ := c.def_ 19 (d := fD 36 "between") rfl
  exact ⟨f_between, _, fd, _, _, _, _, _, N_between, P_between, by rfl, F, sc_between, rfl, rfl, ck_between, He.glo_ok X G (c.fact 19 (f := .glo "between") rfl), kw_of (L := [none, some ([("forms" : Str), ("name" : Str), ("worths" : Str)], [])]) (by decide +kernel) (fm (kw_pos F fun _ _ _ _ _ _ us hl => match us, hl with | [_, _, _], _ => rfl) (fm (kw_kw (a := 0) rfl rfl F fun _ _ _ _ _ _ us ws h1 h2 => match us, ws, h1, h2 with | [], [_, _, _], _, _ => rfl) fz)), fun e => absurd e (by decide)⟩
theorem df__law_draw (X : K.In h) (G : h.Ns mainGlobals mg) (z : SaysZ fa fn gt hx KB K) (c : He.SaysD fa fn K) : DefT K mg T mo "_law_draw" := by
  obtain ⟨fd, F⟩ := c.def_ 20 (d := fD 38 "_law_draw") rfl
  exact ⟨f_law_draw, _, fd, _, _, _, _, _, N__law_draw, P__law_draw, by rfl, F, sc__law_draw, rfl, rfl, ck__law_draw, He.glo_ok X G (c.fact 20 (f := .glo "_law_draw") rfl), kw_of (L := [none]) (by decide +kernel) (fm (kw_pos F fun _ _ _ _ _ _ us hl => match us, hl with | [_, _], _ => rfl) fz), fun e => absurd e (by decide)⟩
theorem df__law_any (X : K.In h) (G : h.Ns mainGlobals mg) (z : SaysZ fa fn gt hx KB K) (c : He.SaysD fa fn K) : DefT K mg T mo "_law_any" := by
  obtain ⟨fd, F⟩ := c.def_ 21 (d := fD 39 "_law_any") rfl
  exact ⟨f_law_any, _, fd, _, _, _, _, _, N__law_any, P__law_any, by rfl, F, sc__law_any, rfl, rfl, ck__law_any, He.glo_ok X G (c.fact 21 (f := .glo "_law_any") rfl), kw_of (L := [none]) (by decide +kernel) (fm (kw_pos F fun _ _ _ _ _ _ us hl => match us, hl with | [_, _], _ => rfl) fz), fun e => absurd e (by decide)⟩
theorem df__law_of (X : K.In h) (G : h.Ns mainGlobals mg) (z : SaysZ fa fn gt hx KB K) (c : He.SaysD fa fn K) : DefT K mg T mo "_law_of" := by
  obtain ⟨fd, F⟩ := c.def_ 22 (d := fD 40 "_law_of") rfl
  exact ⟨f_law_of, _, fd, _, _, _, _, _, N__law_of, P__law_of, by rfl, F, sc__law_of, rfl, rfl, ck__law_of, He.glo_ok X G (c.fact 22 (f := .glo "_law_of") rfl), kw_of (L := [none]) (by decide +kernel) (fm (kw_pos F fun _ _ _ _ _ _ us hl => match us, hl with | [_, _], _ => rfl) fz), fun e => absurd e (by decide)⟩
theorem df__law_mixed (X : K.In h) (G : h.Ns mainGlobals mg) (z : SaysZ fa fn gt hx KB K) (c : He.SaysD fa fn K) : DefT K mg T mo "_law_mixed" := by
  obtain ⟨fd, F⟩ := c.def_ 23 (d := fD 41 "_law_mixed") rfl
  exact ⟨f_law_mixed, _, fd, _, _, _, _, _, N__law_mixed, P__law_mixed, by rfl, F, sc__law_mixed, rfl, rfl, ck__law_mixed, He.glo_ok X G (c.fact 23 (f := .glo "_law_mixed") rfl), kw_of (L := [none]) (by decide +kernel) (fm (kw_pos F fun _ _ _ _ _ _ us hl => match us, hl with | [_, _], _ => rfl) fz), fun e => absurd e (by decide)⟩
theorem df__law_same (X : K.In h) (G : h.Ns mainGlobals mg) (z : SaysZ fa fn gt hx KB K) (c : He.SaysD fa fn K) : DefT K mg T mo "_law_same" := by
  obtain ⟨fd, F⟩ := c.def_ 24 (d := fD 42 "_law_same") rfl
  exact ⟨f_law_same, _, fd, _, _, _, _, _, N__law_same, P__law_same, by rfl, F, sc__law_same, rfl, rfl, ck__law_same, He.glo_ok X G (c.fact 24 (f := .glo "_law_same") rfl), kw_of (L := [none]) (by decide +kernel) (fm (kw_pos F fun _ _ _ _ _ _ us hl => match us, hl with | [_, _], _ => rfl) fz), fun e => absurd e (by decide)⟩
theorem df__law_number (X : K.In h) (G : h.Ns mainGlobals mg) (z : SaysZ fa fn gt hx KB K) (c : He.SaysD fa fn K) : DefT K mg T mo "_law_number" := by
  obtain ⟨fd, F⟩ := c.def_ 25 (d := fD 43 "_law_number") rfl
  exact ⟨f_law_number, _, fd, _, _, _, _, _, N__law_number, P__law_number, by rfl, F, sc__law_number, rfl, rfl, ck__law_number, He.glo_ok X G (c.fact 25 (f := .glo "_law_number") rfl), kw_of (L := [none]) (by decide +kernel) (fm (kw_pos F fun _ _ _ _ _ _ us hl => match us, hl with | [_], _ => rfl) fz), fun e => absurd e (by decide)⟩
theorem df__law_sum (X : K.In h) (G : h.Ns mainGlobals mg) (z : SaysZ fa fn gt hx KB K) (c : He.SaysD fa fn K) : DefT K mg T mo "_law_sum" := by
  obtain ⟨fd, F⟩ := c.def_ 26 (d := fD 44 "_law_sum") rfl
  exact ⟨f_law_sum, _, fd, _, _, _, _, _, N__law_sum, P__law_sum, by rfl, F, sc__law_sum, rfl, rfl, ck__law_sum, He.glo_ok X G (c.fact 26 (f := .glo "_law_sum") rfl), kw_of (L := [none]) (by decide +kernel) (fm (kw_pos F fun _ _ _ _ _ _ us hl => match us, hl with | [_], _ => rfl) fz), fun e => absurd e (by decide)⟩
theorem df__law_form (X : K.In h) (G : h.Ns mainGlobals mg) (z : SaysZ fa fn gt hx KB K) (c : He.SaysD fa fn K) : DefT K mg T mo "_law_form" := by
  obtain ⟨fd, F⟩ := c.def_ 27 (d := fD 45 "_law_form") rfl
  exact ⟨f_law_form, _, fd, _, _, _, _, _, N__law_form, P__law_form, by rfl, F, sc__law_form, rfl, rfl, ck__law_form, He.glo_ok X G (c.fact 27 (f := .glo "_law_form") rfl), kw_of (L := [none]) (by decide +kernel) (fm (kw_pos F fun _ _ _ _ _ _ us hl => match us, hl with | [_, _], _ => rfl) fz), fun e => absurd e (by decide)⟩
theorem df__law_long_form (X : K.In h) (G : h.Ns mainGlobals mg) (z : SaysZ fa fn gt hx KB K) (c : He.SaysD fa fn K) : DefT K mg T mo "_law_long_form" := by
  obtain ⟨fd, F⟩ := c.def_ 28 (d := fD 46 "_law_long_form") rfl
  exact ⟨f_law_long_form, _, fd, _, _, _, _, _, N__law_long_form, P__law_long_form, by rfl, F, sc__law_long_form, rfl, rfl, ck__law_long_form, He.glo_ok X G (c.fact 28 (f := .glo "_law_long_form") rfl), kw_of (L := [none]) (by decide +kernel) (fm (kw_pos F fun _ _ _ _ _ _ us hl => match us, hl with | [_, _], _ => rfl) fz), fun e => absurd e (by decide)⟩
theorem df__law_worth (X : K.In h) (G : h.Ns mainGlobals mg) (z : SaysZ fa fn gt hx KB K) (c : He.SaysD fa fn K) : DefT K mg T mo "_law_worth" := by
  obtain ⟨fd, F⟩ := c.def_ 29 (d := fD 47 "_law_worth") rfl
  exact ⟨f_law_worth, _, fd, _, _, _, _, _, N__law_worth, P__law_worth, by rfl, F, sc__law_worth, rfl, rfl, ck__law_worth, He.glo_ok X G (c.fact 29 (f := .glo "_law_worth") rfl), kw_of (L := [none]) (by decide +kernel) (fm (kw_pos F fun _ _ _ _ _ _ us hl => match us, hl with | [_, _], _ => rfl) fz), fun e => absurd e (by decide)⟩
theorem df__law_worths (X : K.In h) (G : h.Ns mainGlobals mg) (z : SaysZ fa fn gt hx KB K) (c : He.SaysD fa fn K) : DefT K mg T mo "_law_worths" := by
  obtain ⟨fd, F⟩ := c.def_ 30 (d := fD 48 "_law_worths") rfl
  exact ⟨f_law_worths, _, fd, _, _, _, _, _, N__law_worths, P__law_worths, by rfl, F, sc__law_worths, rfl, rfl, ck__law_worths, He.glo_ok X G (c.fact 30 (f := .glo "_law_worths") rfl), kw_of (L := [none]) (by decide +kernel) (fm (kw_pos F fun _ _ _ _ _ _ us hl => match us, hl with | [_, _], _ => rfl) fz), fun e => absurd e (by decide)⟩
theorem hd__law_heard (X : K.In h) (G : h.Ns mainGlobals mg) (c : He.SaysD fa fn K) (e : ErrOk R.prog K mg (fun c => He.ga K (Str.ofString c)) hx.xs) : HeardK R.prog K mg (fun c => He.ga K (Str.ofString c)) "_law_heard" hf__law_heard := by
  obtain ⟨fd, F⟩ := c.def_ 31 (d := fD 49 "_law_heard") rfl
  exact ⟨⟨_, fd, _, _, _, N__law_heard, "work", "wrong", "told", 1, 2, He.glo_ok X G (c.fact 31 (f := .glo "_law_heard") rfl), F, kw_pos F fun _ _ _ _ _ _ us hl => match us, hl with | [_], _ => rfl, sc__law_heard, rfl, cl__law_heard.1, rfl, cl__law_heard.2.1, rfl, cl__law_heard.2.2, ck__law_heard⟩, e.sub (by decide +kernel)⟩
theorem df__law_forms_wrong (X : K.In h) (G : h.Ns mainGlobals mg) (z : SaysZ fa fn gt hx KB K) (c : He.SaysD fa fn K) : DefT K mg T mo "_law_forms_wrong" := by
  obtain ⟨fd, F⟩ := c.def_ 32 (d := fD 50 "_law_forms_wrong") rfl
  exact ⟨f_law_forms_wrong, _, fd, _, _, _, _, _, N__law_forms_wrong, P__law_forms_wrong, by rfl, F, sc__law_forms_wrong, rfl, rfl, ck__law_forms_wrong, He.glo_ok X G (c.fact 32 (f := .glo "_law_forms_wrong") rfl), kw_of (L := [none]) (by decide +kernel) (fm (kw_pos F fun _ _ _ _ _ _ us hl => match us, hl with | [_], _ => rfl) fz), fun e => absurd e (by decide)⟩
theorem df__law_cast (X : K.In h) (G : h.Ns mainGlobals mg) (z : SaysZ fa fn gt hx KB K) (c : He.SaysD fa fn K) : DefT K mg T mo "_law_cast" := by
  obtain ⟨fd, F⟩ := c.def_ 33 (d := fD 51 "_law_cast") rfl
  exact ⟨f_law_cast, _, fd, _, _, _, _, _, N__law_cast, P__law_cast, by rfl, F, sc__law_cast, rfl, rfl, ck__law_cast, He.glo_ok X G (c.fact 33 (f := .glo "_law_cast") rfl), kw_of (L := [none]) (by decide +kernel) (fm (kw_pos F fun _ _ _ _ _ _ us hl => match us, hl with | [_, _, _], _ => rfl) fz), fun e => absurd e (by decide)⟩
theorem df__law_span (X : K.In h) (G : h.Ns mainGlobals mg) (z : SaysZ fa fn gt hx KB K) (c : He.SaysD fa fn K) : DefT K mg T mo "_law_span" := by
  obtain ⟨fd, F⟩ := c.def_ 34 (d := fD 52 "_law_span") rfl
  exact ⟨f_law_span, _, fd, _, _, _, _, _, N__law_span, P__law_span, by rfl, F, sc__law_span, rfl, rfl, ck__law_span, He.glo_ok X G (c.fact 34 (f := .glo "_law_span") rfl), kw_of (L := [none]) (by decide +kernel) (fm (kw_pos F fun _ _ _ _ _ _ us hl => match us, hl with | [_, _, _], _ => rfl) fz), fun e => absurd e (by decide)⟩
theorem df__law_bounding (X : K.In h) (G : h.Ns mainGlobals mg) (z : SaysZ fa fn gt hx KB K) (c : He.SaysD fa fn K) : DefT K mg T mo "_law_bounding" := by
  obtain ⟨fd, F⟩ := c.def_ 35 (d := fD 53 "_law_bounding") rfl
  exact ⟨f_law_bounding, _, fd, _, _, _, _, _, N__law_bounding, P__law_bounding, by rfl, F, sc__law_bounding, rfl, rfl, ck__law_bounding, He.glo_ok X G (c.fact 35 (f := .glo "_law_bounding") rfl), kw_of (L := [none]) (by decide +kernel) (fm (kw_pos F fun _ _ _ _ _ _ us hl => match us, hl with | [_, _, _], _ => rfl) fz), fun e => absurd e (by decide)⟩
theorem df__law_near (X : K.In h) (G : h.Ns mainGlobals mg) (z : SaysZ fa fn gt hx KB K) (c : He.SaysD fa fn K) : DefT K mg T mo "_law_near" := by
  obtain ⟨fd, F⟩ := c.def_ 36 (d := fD 54 "_law_near") rfl
  exact ⟨f_law_near, _, fd, _, _, _, _, _, N__law_near, P__law_near, by rfl, F, sc__law_near, rfl, rfl, ck__law_near, He.glo_ok X G (c.fact 36 (f := .glo "_law_near") rfl), kw_of (L := [none]) (by decide +kernel) (fm (kw_pos F fun _ _ _ _ _ _ us hl => match us, hl with | [_, _, _, _], _ => rfl) fz), fun e => absurd e (by decide)⟩
theorem df__law_kept (X : K.In h) (G : h.Ns mainGlobals mg) (z : SaysZ fa fn gt hx KB K) (c : He.SaysD fa fn K) : DefT K mg T mo "_law_kept" := by
  obtain ⟨fd, F⟩ := c.def_ 37 (d := fD 55 "_law_kept") rfl
  exact ⟨f_law_kept, _, fd, _, _, _, _, _, N__law_kept, P__law_kept, by rfl, F, sc__law_kept, rfl, rfl, ck__law_kept, He.glo_ok X G (c.fact 37 (f := .glo "_law_kept") rfl), kw_of (L := [none]) (by decide +kernel) (fm (kw_pos F fun _ _ _ _ _ _ us hl => match us, hl with | [_, _, _, _], _ => rfl) fz), fun e => absurd e (by decide)⟩
theorem df_law (X : K.In h) (G : h.Ns mainGlobals mg) (z : SaysZ fa fn gt hx KB K) (c : He.SaysD fa fn K) : DefT K mg T mo "law" := by
  obtain ⟨fd, F⟩ := c.def_ 38 (d := fD 56 "law") rfl
  exact ⟨f_law, _, fd, _, _, _, _, _, N_law, P_law, by rfl, F, sc_law, rfl, rfl, ck_law, He.glo_ok X G (c.fact 38 (f := .glo "law") rfl), kw_of (L := [none]) (by decide +kernel) (fm (kw_pos F fun _ _ _ _ _ _ us hl => match us, hl with | [_], _ => rfl) fz), fun _ => lamB_ok F (z.lam (by decide +kernel))⟩
theorem err_ok (X : K.In h) (G : h.Ns mainGlobals mg) (z : SaysZ fa fn gt hx KB K) : ErrOk R.prog K mg (fun c => He.ga K (Str.ofString c)) hx.xs := z.err X G (by kernel_rfl) rfl
theorem tab_ok (XB : KB.In h) (X : K.In h) (G : h.Ns mainGlobals mg) (z : SaysZ fa fn gt hx KB K) (c : He.SaysD fa fn K) : TabOk R.prog K mg (fun c => He.ga K (Str.ofString c)) T mo := by
  have e := err_ok X G z
  exact ⟨(fm (df_is_unknown X G z c) (fm (df_are_ascending X G z c) (fm (df_is_integer X G z c) (fm (df_is_sequence X G z c) (fm (df_are_worths X G z c) (fm (df_is_form X G z c) (fm (df_checked_worths X G z c) (fm (df_form_of X G z c) (fm (df_sum_of X G z c) (fm (df_factor_in X G z c) (fm (df_worth_of X G z c) (fm (df_checked_forms X G z c) (fm (df_sides X G z c) (fm (df_crossed X G z c) (fm (df_checked_question X G z c) (fm (df_cast X G z c) (fm (df_shadow X G z c) (fm (df_dark_shadow X G z c) (fm (df_bounds_of X G z c) (fm (df_between X G z c) (fm (df__law_draw X G z c) (fm (df__law_any X G z c) (fm (df__law_of X G z c) (fm (df__law_mixed X G z c) (fm (df__law_same X G z c) (fm (df__law_number X G z c) (fm (df__law_sum X G z c) (fm (df__law_form X G z c) (fm (df__law_long_form X G z c) (fm (df__law_worth X G z c) (fm (df__law_worths X G z c) (fm (df__law_forms_wrong X G z c) (fm (df__law_cast X G z c) (fm (df__law_span X G z c) (fm (df__law_bounding X G z c) (fm (df__law_near X G z c) (fm (df__law_kept X G z c) (fm (df_law X G z c) (fm (df_between X G z c) (fm (df_dark_shadow X G z c) fz)))))))))))))))))))))))))))))))))))))))),
   (fm (by obtain ⟨t, e⟩ := He.str_ok X G (c.fact 39 (f := .str "LETTERS" "abcdefghijklmnopqrstuvwxyz") rfl); exact ⟨.str "abcdefghijklmnopqrstuvwxyz", .str "abcdefghijklmnopqrstuvwxyz" t, e, ⟨t, rfl⟩, fun _ _ _ => .str _⟩) (fm (by obtain ⟨t, e⟩ := He.str_ok X G (c.fact 40 (f := .str "DIGITS" "0123456789") rfl); exact ⟨.str "0123456789", .str "0123456789" t, e, ⟨t, rfl⟩, fun _ _ _ => .str _⟩) (fm (by obtain ⟨t, e⟩ := He.str_ok X G (c.fact 41 (f := .str "MARKS" "._#") rfl); exact ⟨.str "._#", .str "._#" t, e, ⟨t, rfl⟩, fun _ _ _ => .str _⟩) (fm (by obtain ⟨t, e⟩ := He.int_ok X G (c.fact 42 (f := .int "MOST_UNKNOWN" 60) rfl); exact ⟨.int 60, .int 60 t, e, ⟨t, rfl⟩, fun _ _ _ => .int _⟩) (fm (by obtain ⟨t, e⟩ := He.int_ok X G (c.fact 43 (f := .int "MOST_UNKNOWNS" 200) rfl); exact ⟨.int 200, .int 200 t, e, ⟨t, rfl⟩, fun _ _ _ => .int _⟩) (fm (by obtain ⟨t, e⟩ := He.int_ok X G (c.fact 44 (f := .int "MOST_WORTHS" 2000) rfl); exact ⟨.int 2000, .int 2000 t, e, ⟨t, rfl⟩, fun _ _ _ => .int _⟩) fz)))))),
   (fm (He.free_ok X G (c.fact 45 (f := .free "len") rfl)) (fm (He.free_ok X G (c.fact 46 (f := .free "abs") rfl)) (fm (He.free_ok X G (c.fact 47 (f := .free "int") rfl)) (fm (He.free_ok X G (c.fact 48 (f := .free "all") rfl)) (fm (He.free_ok X G (c.fact 49 (f := .free "any") rfl)) (fm (He.free_ok X G (c.fact 50 (f := .free "sum") rfl)) (fm (He.free_ok X G (c.fact 51 (f := .free "max") rfl)) (fm (He.free_ok X G (c.fact 52 (f := .free "min") rfl)) (fm (He.free_ok X G (c.fact 53 (f := .free "tuple") rfl)) (fm (He.free_ok X G (c.fact 54 (f := .free "list") rfl)) (fm (He.free_ok X G (c.fact 55 (f := .free "sorted") rfl)) (fm (He.free_ok X G (c.fact 56 (f := .free "dict") rfl)) (fm (He.free_ok X G (c.fact 57 (f := .free "str") rfl)) (fm (He.free_ok X G (c.fact 58 (f := .free "set") rfl)) (fm (He.free_ok X G (c.fact 59 (f := .free "isinstance") rfl)) (fm (He.free_ok X G (c.fact 60 (f := .free "range") rfl)) (fm (He.free_ok X G (c.fact 61 (f := .free "enumerate") rfl)) (fm (He.free_ok X G (c.fact 62 (f := .free "zip") rfl)) (fm (He.free_ok X G (c.fact 63 (f := .free "bool") rfl)) (fm (He.free_ok X G (c.fact 64 (f := .free "NoneType") rfl)) (fm (He.free_ok X G (c.fact 65 (f := .free "super") rfl)) fz))))))))))))))))))))),
   (fm (hd__law_heard X G c e) fz), e.sub (by decide +kernel), (z.tabs XB X).2⟩
end
end K21T
end Z
open PySem PySem.W PySem.Calls PyProof.Rows
theorem K21T.ends {N : Nat} (hr : L2.Room (Z.lvl N) callerA) (hlaw : ∀ ns : List Int, ns.length ≤ 63 → ∃ M, Z.callN Z.K21T.T N "law" [.scr (ns.map .int)] [] = .ok (.bl true) M) : PySem.Challenge.rw_boundbyproof_k21_whole_shadows_and_bound.Holds := by
  w_on; o_law
  refine HandSHeadRun.head_any (r := OpenLaw.row PySem.Challenge.rw_boundbyproof_k21_whole_shadows_and_bound) (q := view (OpenLaw.row PySem.Challenge.rw_boundbyproof_k21_whole_shadows_and_bound).prog [56]) (H := Z.K21T.hk) (ob := Z.K21T.ob) (M := 4000) (loose := Z.K21T.names) (d := HandSHeadRun.topDef (OpenLaw.row PySem.Challenge.rw_boundbyproof_k21_whole_shadows_and_bound).prog 56) (kwd := []) Z.K21T.ob_eq
    (by kernel_rfl) (fun s => by kernel_rfl) Z.K21T.run (by kernel_rfl) (by kernel_rfl) (by kernel_rfl) (by rfl) (by first | assumption | decide +kernel) (by decide +kernel) ⟨rfl, rfl, rfl, rfl, rfl, by decide +kernel⟩ ?hw ?hc
  case hw => w_witness2
  case hc =>
    refine Z.law_end (l := PySem.Challenge.rw_boundbyproof_k21_whole_shadows_and_bound) (n := 63) (N := N) (x := "script") (T := Z.K21T.T) (mo := Z.K21T.mo) (fn := Z.K21T.f_law) (scope := L2.defScope (Z.K21T.top 56)) (params := L2.defArgs (Z.K21T.top 56)) (body := L2.defBody (Z.K21T.top 56)) (Nl := Z.K21T.N_law) rfl (by decide) (by kernel_rfl) hr (by kernel_rfl) (by rfl) Z.K21T.sc_law rfl rfl Z.K21T.ck_law hlaw ?_
    intro w mg fa h Y G hmg
    obtain ⟨KB, K, XB, KX, z⟩ := Y
    have c := Z.SaysZ.d z
    obtain ⟨fd, F⟩ := He.SaysD.def_ c 38 (d := Z.K21T.fD 56 "law") rfl
    have e := hmg.symm.trans (He.glo_ok KX G (c.fact 38 (f := .glo "law") rfl))
    cases e
    have b := L2.FunD.bindsA (ps := ["script"]) F fun _ _ _ _ _ _ us hl => match us, hl with | [_], _ => rfl
    exact ⟨K, fun c => He.ga K (Str.ofString c), fd, _, KX, (z.tabs XB KX).1, Z.K21T.tab_ok XB KX G z c, F, fun _ => Z.lamB_ok F (z.lam (by decide +kernel)), fun s u => b s [u] rfl⟩


/-! K03A: the functions of the module, by what they give. -/
namespace Z
namespace K21T
open PySem L2

def NL : List Str := ["a#1.2", "b", "c.c", "x", "x_1", "y", "z"]
def letS : Str := "abcdefghijklmnopqrstuvwxyz"
def digS : Str := "0123456789"
def mrkS : Str := "._#"
def unkC (c : Nat) : Bool := decide (c ∈ letS.cps.toList) || (decide (c ∈ digS.cps.toList) || decide (c ∈ mrkS.cps.toList))
/-- an unknown, plainly -/
def unkB (x : Str) : Bool := match x.cps.toList with
  | [] => false
  | c :: r => decide ((c :: r).length ≤ 60) && (decide (c ∈ letS.cps.toList) && (c :: r).all unkC)
theorem str_len {x : Str} : x.length = x.cps.toList.length := by rw [Array.length_toList]; rfl
theorem len_str {m : Bool} {M : Sto} {x : Str} (h : fitLen x.length = true) : biD .len m [.str x] M = .ok (.int x.length) M := by show (if fitLen x.length then _ else _) = _; rw [if_pos h]
theorem in_one {M : Sto} {c : Nat} {y : Str} : inD M (.str ⟨#[c]⟩) (.str y) = some (decide (c ∈ y.cps.toList)) := rfl
theorem bools_map {α : Type} {f : α → Bool} : ∀ (l : List α), boolsD (l.map fun x => D.bl (f x)) = some (l.map f)
  | [] => rfl
  | _ :: r => by rw [List.map_cons, boolsD, bools_map r]; rfl
theorem is_unknown_all {n : Nat} {x : Str} (hf : fitLen x.length = true) : Calc (callN T (n + 1)) "is_unknown" [.str x] (.bl (unkB x)) := by
  refine own_call (fn := f_is_unknown) (by kernel_rfl) rfl rfl rfl fun M => ⟨[], ?_⟩
  rw [List.append_nil]
  have hl := len_str (m := false) (M := M) hf
  have hL := str_len (x := x)
  unfold unkB
  cases hx : x.cps.toList with
  | nil =>
    rw [hx] at hL
    have h1 : decide ((1 : Int) ≤ (x.length : Int)) = false := decide_eq_false (by rw [hL]; simp)
    simp [f_is_unknown, hl, h1]
  | cons c r =>
    rw [hx] at hL
    have h1 : decide ((1 : Int) ≤ (x.length : Int)) = true := decide_eq_true (by rw [hL, List.length_cons]; omega)
    have h2 : decide ((x.length : Int) ≤ 60) = decide ((c :: r).length ≤ 60) := by
      rw [hL, Bool.eq_iff_iff, decide_eq_true_eq, decide_eq_true_eq]; omega
    have h3 : idxD M (.str x) (.int 0) = some (.str ⟨#[c]⟩) := by
      show (if fitLen x.length then (itemAt x.cps.toList 0).map fun c => D.str ⟨#[c]⟩ else none) = _
      rw [if_pos hf, hx, it_0]; rfl
    have h4 : inD M (.str ⟨#[c]⟩) (.str "abcdefghijklmnopqrstuvwxyz") = some (decide (c ∈ letS.cps.toList)) := in_one
    have h5 : walkD (.str x) = some ((c :: r).map fun c => D.str ⟨#[c]⟩) := by
      show (if fitLen x.length then some (x.cps.toList.map fun c => D.str ⟨#[c]⟩) else none) = _
      rw [if_pos hf, hx]
    have h6 : ∀ env : En, env = [some (.str x), none] → compGo (.n 1) (fun _ M => .ok true M) (fun env M => evE (callN T n) f_is_unknown_c0 env M) env ((c :: r).map fun c => D.str ⟨#[c]⟩) M = .ok ((c :: r).map fun c => D.bl (unkC c)) M := by
      intro env he
      rw [comp_pure (p := fun _ => true) (q := fun d => (match d with | .str y => .bl (match y.cps.toList with | [c] => unkC c | _ => false) | _ => .non)) fun d hd => ?_]
      · rw [List.filter_eq_self.mpr (fun _ _ => rfl), List.map_map]; rfl
      · obtain ⟨z, _, rfl⟩ := List.mem_map.mp hd
        subst he
        refine ⟨_, rfl, rfl, fun _ => ?_⟩
        have k1 : inD M (.str ⟨#[z]⟩) (.str "abcdefghijklmnopqrstuvwxyz") = some (decide (z ∈ letS.cps.toList)) := in_one
        have k2 : inD M (.str ⟨#[z]⟩) (.str "0123456789") = some (decide (z ∈ digS.cps.toList)) := in_one
        have k3 : inD M (.str ⟨#[z]⟩) (.str "._#") = some (decide (z ∈ mrkS.cps.toList)) := in_one
        obtain ⟨b1, e1⟩ : ∃ b, b = decide (z ∈ letS.cps.toList) := ⟨_, rfl⟩
        obtain ⟨b2, e2⟩ : ∃ b, b = decide (z ∈ digS.cps.toList) := ⟨_, rfl⟩
        obtain ⟨b3, e3⟩ : ∃ b, b = decide (z ∈ mrkS.cps.toList) := ⟨_, rfl⟩
        rw [← e1] at k1
        rw [← e2] at k2
        rw [← e3] at k3
        have e : unkC z = (b1 || (b2 || b3)) := by unfold unkC; rw [e1, e2, e3]
        show evE (callN T n) f_is_unknown_c0 [some (.str x), some (.str ⟨#[z]⟩)] M = .ok (.bl (unkC z)) M
        rw [e]
        simp [f_is_unknown_c0, k1, k2, k3]
        cases b1 <;> cases b2 <;> rfl
    have h7 := bd_all (m := false) (M := M) (bools_map (f := unkC) (c :: r))
    have h6 := h6 _ rfl
    obtain ⟨b1, e1⟩ : ∃ b, b = decide (c ∈ letS.cps.toList) := ⟨_, rfl⟩
    obtain ⟨b2, e2⟩ : ∃ b, b = decide ((c :: r).length ≤ 60) := ⟨_, rfl⟩
    obtain ⟨b3, e3⟩ : ∃ b, b = (c :: r).all unkC := ⟨_, rfl⟩
    have e4 : ((c :: r).map unkC).all id = b3 := by rw [e3, List.all_map]; rfl
    rw [e4] at h7
    rw [← e1] at h4
    rw [← e2] at h2
    dsimp only
    rw [← e1, ← e2, ← e3]
    generalize (c :: r).map (fun c => D.str ⟨#[c]⟩) = ss at h5 h6
    generalize (c :: r).map (fun c => D.bl (unkC c)) = bs at h6 h7
    clear e1 e2 e3 e4 hx hL
    cases b2
    · simp [f_is_unknown, hl, h1, h2]
    · cases b1
      · simp [f_is_unknown, hl, h1, h2, h3, h4]
      · simp [f_is_unknown, hl, h1, h2, h3, h4, h5]
        rw [h6]
        simp [h7]
theorem unk_fit {x : Str} (h : unkB x = true) : fitLen x.length = true := by
  unfold unkB at h
  have hL := str_len (x := x)
  split at h
  · cases h
  · rename_i c r hx
    rw [hx] at hL
    rw [Bool.and_eq_true] at h
    have := of_decide_eq_true h.1
    exact decide_eq_true (by omega)
theorem is_unknown_gen {n : Nat} {x : Str} (h : unkB x = true) : Calc (callN T (n + 1)) "is_unknown" [.str x] (.bl true) := by
  have e := is_unknown_all (n := n) (unk_fit h)
  rw [h] at e
  exact e
theorem NL_unk : ∀ x ∈ NL, unkB x = true := by decide +kernel
theorem is_unknown_ok {n : Nat} {x : Str} (h : x ∈ NL) : Calc (callN T (n + 1)) "is_unknown" [.str x] (.bl true) := is_unknown_gen (NL_unk x h)
theorem is_integer_ok {n : Nat} {i : Int} : Calc (callN T (n + 1)) "is_integer" [.int i] (.bl true) :=
  own_call (fn := f_is_integer) (by kernel_rfl) rfl rfl rfl fun M => ⟨[], by rw [List.append_nil]; rfl⟩
theorem zip_asc : ∀ {xs : List Str}, xs.Pairwise (fun a b => ltStr a b = true) → ∀ d ∈ zipD (xs.map D.str) ((xs.map D.str).drop 1), ∃ a b, d = .pr [.str a, .str b] ∧ ltStr a b = true
  | [], _, d, h => by simp [zipD] at h
  | [x], _, d, h => by simp [zipD] at h
  | x :: y :: r, hp, d, h => by
    rw [List.pairwise_cons] at hp
    simp [zipD] at h
    rcases h with rfl | h
    · exact ⟨x, y, rfl, hp.1 y List.mem_cons_self⟩
    · exact zip_asc hp.2 d (by simpa [zipD] using h)
theorem asc_ok {n : Nat} {xs : List Str} (h : xs.Pairwise (fun a b => ltStr a b = true)) : Calc (callN T (n + 1)) "are_ascending" [.lst (xs.map .str)] (.bl true) := by
  refine own_call (fn := f_are_ascending) (by kernel_rfl) rfl rfl rfl fun M => ⟨[], ?_⟩
  rw [List.append_nil]
  have hc : cut (xs.map D.str) (some 1) none = (xs.map D.str).drop 1 := cut_from (k := 1)
  simp [f_are_ascending, slcD, hc]
  rw [comp_pure (p := fun _ => true) (q := fun _ => .bl true) fun d hd => ?_]
  · simp [bd_all_true]
  · obtain ⟨a, b, rfl, hl⟩ := zip_asc h d (by simpa using hd)
    exact ⟨_, rfl, rfl, fun _ => by simp [f_are_ascending_c0, hl]⟩
def prsD (l : List Str) (g : Str → Int) : List D := l.map fun n => .tup [.str n, .int (g n)]
def rowL (f : Str → Int) : List Str := NL.filter fun n => f n != 0
def fmD (c : Int) (f : Str → Int) : D := .tup [.int c, .tup (prsD (rowL f) f)]
def wtD (S : Str → Bool) (g : Str → Int) : D := .tup (prsD (NL.filter S) g)
theorem prs_len {l : List Str} {g : Str → Int} : (prsD l g).length = l.length := List.length_map _
theorem NL_asc : NL.Pairwise (fun a b => ltStr a b = true) := by decide +kernel
theorem worths_gen {n : Nat} {l : List Str} {g : Str → Int} {most : Int} (hp : l.Pairwise (fun a b => ltStr a b = true)) (hu : ∀ x ∈ l, unkB x = true) (hm : l.length ≤ most) : Calc (callN T (n + 2)) "are_worths" [.tup (prsD l g), .int most] (.bl true) := by
  refine own_call (fn := f_are_worths) (by kernel_rfl) rfl rfl rfl fun M => ⟨[], ?_⟩
  rw [List.append_nil]
  have hd : decide (most < ((prsD l g).length : Int)) = false := decide_eq_false (by rw [prs_len]; omega)
  simp [f_are_worths, hd]
  obtain ⟨env', M', h1, h2, h3⟩ := for_all (t := .n 2) (b := fun env M1 => evSs (callN T (n + 1)) f_are_worths_b0 env M1) (items := prsD l g) (env := [some (.tup (prsD l g)), some (.int most), none]) (M := M) (fun _ env M' => (∃ x, env = [some (.tup (prsD l g)), some (.int most), x]) ∧ M' = M) ⟨⟨_, rfl⟩, rfl⟩ (by
    rintro i d env M1 hi ⟨⟨x, rfl⟩, rfl⟩
    obtain ⟨z, hz, rfl⟩ := List.mem_map.mp (List.mem_of_getElem? hi)
    refine ⟨_, [some (.tup (prsD l g)), some (.int most), some (.tup [.str z, .int (g z)])], M1, rfl, ?_, ⟨_, rfl⟩, rfl⟩
    have h1 := is_unknown_gen (n := n) (hu z hz) M1
    have h2 := is_integer_ok (n := n) (i := g z) M1
    simp [f_are_worths_b0, h1, h2])
  rw [h1]
  obtain ⟨x, rfl⟩ := h2
  subst h3
  simp
  rw [comp_pure (p := fun _ => true) (q := fun d => (match d with | .tup (a :: _) => a | _ => .non)) fun d hd => ?_]
  · have e : ((prsD l g).filter fun _ => true).map (fun d => (match d with | .tup (a :: _) => a | _ => D.non)) = l.map D.str := by
      rw [List.filter_eq_self.mpr (fun _ _ => rfl), prsD, List.map_map]; rfl
    rw [e]
    simp
    rw [asc_ok hp]
    rfl
  · obtain ⟨z, hz, rfl⟩ := List.mem_map.mp hd
    exact ⟨_, rfl, rfl, fun _ => by simp [f_are_worths_c0]⟩
theorem worths_ok {n : Nat} {l : List Str} {g : Str → Int} {most : Int} (hl : l.Sublist NL) (hm : 7 ≤ most) : Calc (callN T (n + 2)) "are_worths" [.tup (prsD l g), .int most] (.bl true) := by
  have hlen : l.length ≤ 7 := hl.length_le
  exact worths_gen (NL_asc.sublist hl) (fun x hx => NL_unk x (hl.subset hx)) (by omega)
theorem row_sub (f : Str → Int) : (rowL f).Sublist NL := List.filter_sublist
theorem is_form_ok {n : Nat} {c : Int} {f : Str → Int} : Calc (callN T (n + 3)) "is_form" [fmD c f] (.bl true) := by
  refine own_call (fn := f_is_form) (by kernel_rfl) rfl rfl rfl fun M => ⟨[], ?_⟩
  rw [List.append_nil]
  have h1 := is_integer_ok (n := n + 1) (i := c) M
  have h2 := worths_ok (n := n) (g := f) (most := 200) (row_sub f) (by decide) M
  simp [f_is_form, fmD, h1, h2]
  rw [comp_pure (p := fun _ => true) (q := fun _ => .bl true) fun d hd => ?_]
  · simp [bd_all_true]
  · obtain ⟨z, hz, rfl⟩ := List.mem_map.mp hd
    have hz : f z ≠ 0 := by
      have := (List.mem_filter.mp hz).2
      simpa using this
    exact ⟨_, rfl, rfl, fun _ => by simp [f_is_form_c0, hz]⟩
theorem checked_worths_gen {n : Nat} {k : Int} {l : List Str} {g : Str → Int} (hp : l.Pairwise (fun a b => ltStr a b = true)) (hu : ∀ x ∈ l, unkB x = true) (hm : l.length ≤ 2000) : Calc (callN T (n + 3)) "checked_worths" [.tup (prsD l g), .int k] .non := by
  refine own_callN (fn := f_checked_worths) (by kernel_rfl) rfl rfl fun M => ⟨[some (.tup (prsD l g)), some (.int k)], [], ?_⟩
  rw [List.append_nil]
  have h1 := worths_gen (n := n) (l := l) (g := g) (most := 2000) hp hu (by omega) M
  simp [f_checked_worths, h1]
theorem checked_worths_ok {n : Nat} {k : Int} {S : Str → Bool} {g : Str → Int} : Calc (callN T (n + 3)) "checked_worths" [wtD S g, .int k] .non := by
  refine own_callN (fn := f_checked_worths) (by kernel_rfl) rfl rfl fun M => ⟨[some (wtD S g), some (.int k)], [], ?_⟩
  rw [List.append_nil]
  have h1 := worths_ok (n := n) (l := NL.filter S) (g := g) (most := 2000) List.filter_sublist (by decide) M
  simp [f_checked_worths, wtD, h1]
theorem lt_le {l : List Str} (h : l.Pairwise (fun a b => ltStr a b = true)) : l.Pairwise LeS := h.imp fun h => ltStr_asym h
theorem NL_nd : NL.Nodup := by decide +kernel
/-- names, sorted and picked -/
theorem sort_pick {ks : List Str} {p : Str → Bool} (nd : ks.Nodup) (hs : ∀ k ∈ ks, k ∈ NL) (hp : ∀ n ∈ NL, p n = true → n ∈ ks) : (sortStr ks).filter p = NL.filter p := by
  refine sorted_one ((sortStr_sorted ks).sublist List.filter_sublist) ((lt_le NL_asc).sublist List.filter_sublist) ?_
  refine (List.perm_ext_iff_of_nodup (((sortStr_perm ks).nodup_iff.mpr nd).sublist List.filter_sublist) (NL_nd.sublist List.filter_sublist)).mpr fun n => ?_
  rw [List.mem_filter, List.mem_filter, (sortStr_perm ks).mem_iff]
  exact ⟨fun h => ⟨hs n h.1, h.2⟩, fun h => ⟨hp n h.1 h.2, h.2⟩⟩
/-- a dict that holds the factors h -/
structure DI (kvs : List (Key × D)) (h : Str → Int) : Prop where
  nd : (kvs.map (·.1)).Nodup
  mem : ∀ kv ∈ kvs, ∃ n ∈ NL, kv = (Sum.inr n, D.int (h n))
  all : ∀ n ∈ NL, h n ≠ 0 → (Sum.inr n : Key) ∈ kvs.map (·.1)
theorem DI.nil : DI [] fun _ => 0 := ⟨.nil, fun _ h => (nomatch h), fun _ _ h => absurd rfl h⟩
theorem find_key {kvs : List (Key × D)} {k : Key} : getK kvs k = none ↔ k ∉ kvs.map (·.1) := by
  unfold getK
  rw [Option.map_eq_none_iff, List.find?_eq_none]
  constructor
  · intro h hm
    obtain ⟨kv, h1, h2⟩ := List.mem_map.mp hm
    exact h kv h1 (by simp [h2])
  · intro h kv hm e
    exact h (List.mem_map.mpr ⟨kv, hm, of_decide_eq_true e⟩)
theorem DI.get {kvs : List (Key × D)} {h : Str → Int} (d : DI kvs h) {n : Str} (hn : n ∈ NL) : (getK kvs (Sum.inr n) = some (.int (h n)) ∨ (getK kvs (Sum.inr n) = none ∧ h n = 0)) := by
  cases e : getK kvs (Sum.inr n) with
  | none =>
    refine .inr ⟨rfl, ?_⟩
    have h1 := find_key.mp e
    by_cases h0 : h n = 0
    · exact h0
    · exact absurd (d.all n hn h0) h1
  | some v =>
    unfold getK at e
    cases e2 : kvs.find? (fun kv => decide (kv.1 = Sum.inr n)) with
    | none => rw [e2] at e; cases e
    | some kv =>
      rw [e2] at e
      have h1 := List.mem_of_find?_eq_some e2
      have h2 := List.find?_some e2
      obtain ⟨m, hm, rfl⟩ := d.mem kv h1
      have h3 : (Sum.inr m : Key) = Sum.inr n := of_decide_eq_true h2
      cases h3
      exact .inl e.symm
theorem DI.put {kvs : List (Key × D)} {h : Str → Int} (d : DI kvs h) {n : Str} (hn : n ∈ NL) (v : Int) : DI (putD (Sum.inr n) (.int v) kvs) (fun m => if m = n then v else h m) := by
  unfold putD
  by_cases hk : (kvs.any fun kv => decide (kv.1 = Sum.inr n)) = true
  · rw [if_pos hk]
    have hmap : (kvs.map fun kv => if kv.1 = (Sum.inr n : Key) then (kv.1, D.int v) else kv).map (·.1) = kvs.map (·.1) := by
      rw [List.map_map]
      apply List.map_congr_left
      intro kv _
      show (if kv.1 = (Sum.inr n : Key) then (kv.1, D.int v) else kv).1 = kv.1
      split <;> rfl
    refine ⟨by rw [hmap]; exact d.nd, fun kv hm => ?_, fun m hm h0 => ?_⟩
    · obtain ⟨kv0, h1, rfl⟩ := List.mem_map.mp hm
      obtain ⟨m, hm1, rfl⟩ := d.mem kv0 h1
      by_cases e : m = n
      · subst e; exact ⟨m, hm1, by simp⟩
      · exact ⟨m, hm1, by rw [if_neg (by simpa using e), if_neg e]⟩
    · rw [hmap]
      by_cases e : m = n
      · subst e
        rw [List.any_eq_true] at hk
        obtain ⟨kv, h1, h2⟩ := hk
        exact List.mem_map.mpr ⟨kv, h1, of_decide_eq_true h2⟩
      · rw [if_neg e] at h0
        exact d.all m hm h0
  · rw [if_neg hk]
    have hnk : (Sum.inr n : Key) ∉ kvs.map (·.1) := by
      intro hm
      obtain ⟨kv, h1, h2⟩ := List.mem_map.mp hm
      exact hk (List.any_eq_true.mpr ⟨kv, h1, decide_eq_true h2⟩)
    refine ⟨?_, fun kv hm => ?_, fun m hm h0 => ?_⟩
    · rw [List.map_append, List.nodup_append]
      refine ⟨d.nd, by simp, fun a ha b hb => ?_⟩
      simp at hb
      subst hb
      intro e; subst e; exact hnk ha
    · rcases List.mem_append.mp hm with hm | hm
      · obtain ⟨m, hm1, rfl⟩ := d.mem kv hm
        have e : m ≠ n := fun e => hnk (List.mem_map.mpr ⟨_, hm, by rw [e]⟩)
        exact ⟨m, hm1, by rw [if_neg e]⟩
      · rw [List.mem_singleton] at hm
        subst hm
        exact ⟨n, hn, by rw [if_pos rfl]⟩
    · rw [List.map_append, List.mem_append]
      by_cases e : m = n
      · subst e; exact .inr (by simp)
      · rw [if_neg e] at h0
        exact .inl (d.all m hm h0)
/-- its keys -/
theorem DI.keys {kvs : List (Key × D)} {h : Str → Int} (d : DI kvs h) : ∃ ks : List Str, kvs.map (·.1) = ks.map Sum.inr ∧ ks.Nodup ∧ (∀ k ∈ ks, k ∈ NL) ∧ (∀ n ∈ NL, h n ≠ 0 → n ∈ ks) ∧ ks.length ≤ 7 := by
  have key : ∀ l : List (Key × D), (∀ kv ∈ l, ∃ n ∈ NL, kv = (Sum.inr n, D.int (h n))) → ∃ ks : List Str, l.map (·.1) = ks.map Sum.inr ∧ ∀ k ∈ ks, k ∈ NL := by
    intro l
    induction l with
    | nil => intro _; exact ⟨[], rfl, fun _ h => (nomatch h)⟩
    | cons kv r ih =>
      intro hm
      obtain ⟨n, hn, rfl⟩ := hm kv List.mem_cons_self
      obtain ⟨ks, h1, h2⟩ := ih fun kv hk => hm kv (List.mem_cons_of_mem _ hk)
      refine ⟨n :: ks, by rw [List.map_cons, List.map_cons, h1], fun k hk => ?_⟩
      rcases List.mem_cons.mp hk with rfl | hk
      · exact hn
      · exact h2 k hk
  obtain ⟨ks, h1, h2⟩ := key kvs d.mem
  have nd : ks.Nodup := by
    have h3 := d.nd
    rw [h1] at h3
    exact (List.pairwise_map.mp h3).imp fun {a b} h e => h (by rw [e])
  refine ⟨ks, h1, nd, h2, fun n hn h0 => ?_, ?_⟩
  · have h3 := d.all n hn h0
    rw [h1] at h3
    obtain ⟨m, hm, e⟩ := List.mem_map.mp h3
    cases e
    exact hm
  · have e := sort_pick (p := fun n => decide (n ∈ ks)) nd h2 fun n _ hp => of_decide_eq_true hp
    have e2 : (sortStr ks).filter (fun n => decide (n ∈ ks)) = sortStr ks := List.filter_eq_self.mpr fun n hn => decide_eq_true ((sortStr_perm ks).mem_iff.mp hn)
    rw [e2] at e
    have e3 := congrArg List.length e
    rw [(sortStr_perm ks).length_eq] at e3
    have h4 : (NL.filter fun n => decide (n ∈ ks)).length ≤ NL.length := List.length_filter_le _ _
    rw [← e3] at h4
    exact h4
theorem DI.len {kvs : List (Key × D)} {h : Str → Int} (d : DI kvs h) : kvs.length ≤ 7 := by
  obtain ⟨ks, h1, _, _, _, h2⟩ := d.keys
  have h3 := congrArg List.length h1
  rw [List.length_map, List.length_map] at h3
  omega
theorem prs_pure {l : List Str} {g : Str → Int} : D.pures (prsD l g) = true := by
  induction l with
  | nil => rfl
  | cons x r ih => show (D.pure (.tup [.str x, .int (g x)]) && D.pures (prsD r g)) = true; rw [ih]; rfl
theorem fm_pure {c : Int} {f : Str → Int} : (fmD c f).pure = true := by
  show (D.pure (.int c) && (D.pures (prsD (rowL f) f) && true)) = true
  rw [prs_pure]; rfl
theorem wt_pure {S : Str → Bool} {g : Str → Int} : (wtD S g).pure = true := prs_pure
theorem form_of_ok {n : Nat} {c : Int} {h : Str → Int} {kvs : List (Key × D)} {M : Sto} {a : Nat} (hM : M[a]? = some (.dct kvs)) (d : DI kvs h) : callN T (n + 1) "form_of" [.int c, .loc a] M = .ok (fmD c h) M := by
  refine own_callM (fn := f_form_of) (by kernel_rfl) rfl rfl fm_pure ⟨[], ?_⟩
  rw [List.append_nil]
  obtain ⟨ks, h1, h2, h3, h4, h5⟩ := d.keys
  have e1 : biD .list false [.loc a] M = .ok (.lst (ks.map .str)) M := by
    show (match M[a]? with
      | some (.lst xs) => newList false xs M
      | some (.dct kvs) => newList false (kvs.map fun kv : Key × D => keyD kv.1) M
      | _ => .fail) = _
    rw [hM]
    have : (kvs.map fun kv => keyD kv.1) = ks.map D.str := by
      have := congrArg (List.map keyD) h1
      rw [List.map_map, List.map_map] at this
      exact this
    show newList false (kvs.map fun kv : Key × D => keyD kv.1) M = _
    rw [this]; rfl
  have e2 : biD .sorted false [.lst (ks.map .str)] M = .ok (.lst ((sortStr ks).map .str)) M := by
    show (ofO (strsD (ks.map .str)) M).bind _ = _
    rw [show strsD (ks.map D.str) = some ks from by have := strs_map (f := fun x => x) ks; simpa using this]
    have hf : fitLen ks.length = true := decide_eq_true (by omega)
    show (if fitLen ks.length = true then _ else _) = _
    rw [if_pos hf]; rfl
  simp [f_form_of, e1, e2]
  rw [comp_pure (p := fun d => (match d with | .str n => h n != 0 | _ => false)) (q := fun d => (match d with | .str n => .tup [.str n, .int (h n)] | _ => .non)) fun d' hd => ?_]
  · have e3 : (((sortStr ks).map D.str).filter fun d => (match d with | .str n => h n != 0 | _ => false)).map (fun d => (match d with | .str n => D.tup [.str n, .int (h n)] | _ => .non)) = prsD (rowL h) h := by
      rw [List.filter_map, List.map_map]
      show ((sortStr ks).filter fun n => h n != 0).map (fun n => D.tup [.str n, .int (h n)]) = _
      rw [sort_pick h2 h3 fun n hn hp => h4 n hn (by simpa using hp)]
      rfl
    rw [e3]
    simp [fmD]
  · obtain ⟨x, hx, rfl⟩ := List.mem_map.mp hd
    have hx : x ∈ NL := h3 x ((sortStr_perm ks).mem_iff.mp hx)
    have hg : getK kvs (Sum.inr x) = some (.int (h x)) := by
      rcases d.get hx with e | ⟨e, _⟩
      · exact e
      · have := find_key.mp e
        rw [h1] at this
        exact absurd (List.mem_map_of_mem ((sortStr_perm ks).mem_iff.mp (by assumption))) this
    have hi : idxD M (.loc a) (.str x) = some (.int (h x)) := by
      show (match M[a]?, D.str x with
        | some (.lst xs), .int i => itemAt xs i
        | some (.dct kvs), .str x => getK kvs (Sum.inr x)
        | some (.dct kvs), .int x => getK kvs (Sum.inl x)
        | _, _ => none) = _
      rw [hM]; exact hg
    refine ⟨_, rfl, ?_, fun _ => ?_⟩
    · simp [f_form_of_k0, hi]
      by_cases h0 : h x = 0 <;> simp [h0]
    · simp [f_form_of_c0, hi]
theorem DI.congr {kvs : List (Key × D)} {h h' : Str → Int} (d : DI kvs h) (e : ∀ n ∈ NL, h n = h' n) : DI kvs h' :=
  ⟨d.nd, fun kv hm => by obtain ⟨n, hn, rfl⟩ := d.mem kv hm; exact ⟨n, hn, by rw [e n hn]⟩, fun n hn h0 => d.all n hn (by rw [e n hn]; exact h0)⟩
theorem get_ok {P : Sto} {kvs : List (Key × D)} {h : Str → Int} (d : DI kvs h) {n : Str} (hn : n ∈ NL) : kindM .get (P ++ [.dct kvs]) (.loc P.length) = true ∧ mthD .get (.loc P.length) [.str n, .int 0] (P ++ [.dct kvs]) = .ok (.int (h n)) (P ++ [.dct kvs]) := by
  refine ⟨kd_get at_last, ?_⟩
  rw [md_get at_last]
  rcases d.get hn with e | ⟨e, e2⟩
  · rw [e]; rfl
  · rw [e, e2]; rfl
theorem put_ok {P : Sto} {kvs : List (Key × D)} {n : Str} {v : D} (hl : kvs.length ≤ 1000000) : setIx (.loc P.length) (.str n) v (P ++ [.dct kvs]) = .ok () (P ++ [.dct (putD (Sum.inr n) v kvs)]) := by
  rw [si_dct at_last hl, set_last]
theorem inner_ok {C : Calls} {P : Sto} {f : Str → Int} {a : Int} {p0 p1 p3 : Option D} : ∀ (l : List Str) (kvs : List (Key × D)) (h : Str → Int) (x5 x6 : Option D), (∀ n ∈ l, n ∈ NL) → l.Nodup → (∀ n ∈ l, mulOk (f n) a = true) → DI kvs h →
    ∃ x5' x6' kvs', forGo (.t [5, 6]) (fun env M => evSs C f_sum_of_b0 env M) (prsD l f) [p0, p1, some (.loc P.length), p3, some (.int a), x5, x6] (P ++ [.dct kvs]) = .ok (.nx [p0, p1, some (.loc P.length), p3, some (.int a), x5', x6']) (P ++ [.dct kvs']) ∧
      DI kvs' (fun n => h n + if n ∈ l then f n * a else 0)
  | [], kvs, h, x5, x6, _, _, _, d => ⟨x5, x6, kvs, rfl, d.congr fun n _ => by simp⟩
  | n :: r, kvs, h, x5, x6, hl, nd, hm, d => by
    have hn := hl n List.mem_cons_self
    obtain ⟨g1, g2⟩ := get_ok (P := P) d hn
    have hk : kvs.length ≤ 1000000 := Nat.le_trans d.len (by decide)
    have g3 := put_ok (P := P) (kvs := kvs) (n := n) (v := .int (h n + f n * a)) hk
    have g4 := bn_mul (M := P ++ [.dct kvs]) (hm n List.mem_cons_self)
    obtain ⟨nd1, nd2⟩ := List.nodup_cons.mp nd
    obtain ⟨x5', x6', kvs', e1, e2⟩ := inner_ok (C := C) (P := P) (f := f) (a := a) (p0 := p0) (p1 := p1) (p3 := p3) r _ _ (some (.str n)) (some (.int (f n))) (fun m hm => hl m (List.mem_cons_of_mem _ hm)) nd2 (fun m h => hm m (List.mem_cons_of_mem _ h)) (d.put hn (h n + f n * a))
    refine ⟨x5', x6', kvs', ?_, e2.congr fun m hm => ?_⟩
    · show forGo _ _ (.tup [.str n, .int (f n)] :: prsD r f) _ _ = _
      unfold forGo
      simp [f_sum_of_b0, g1, g2, g3, g4]
      exact e1
    · by_cases e : m = n
      · subst e; simp [nd1]
      · simp [e]
theorem row_mem {f : Str → Int} {n : Str} (hn : n ∈ NL) : n ∈ rowL f ↔ f n ≠ 0 := by
  unfold rowL
  rw [List.mem_filter]
  simp [hn]
theorem rowL_nd (f : Str → Int) : (rowL f).Nodup := NL_nd.sublist List.filter_sublist
/-- one pair of a sum -/
structure Term where
  c : Int
  f : Str → Int
  a : Int
def Term.d (t : Term) : D := .tup [fmD t.c t.f, .int t.a]
def Term.ok (t : Term) : Prop := mulOk t.c t.a = true ∧ ∀ n ∈ NL, mulOk (t.f n) t.a = true
def sumC (ts : List Term) : Int := (ts.map fun t => t.c * t.a).sum
def sumF (ts : List Term) (n : Str) : Int := (ts.map fun t => t.f n * t.a).sum
theorem outer_ok {C : Calls} {P : Sto} {p0 : Option D} : ∀ (ts : List Term) (c : Int) (kvs : List (Key × D)) (h : Str → Int) (x3 x4 x5 x6 : Option D), (∀ t ∈ ts, t.ok) → DI kvs h →
    ∃ x3' x4' x5' x6' kvs', forGo (.t [3, 4]) (fun env M => evSs C f_sum_of_b1 env M) (ts.map Term.d) [p0, some (.int c), some (.loc P.length), x3, x4, x5, x6] (P ++ [.dct kvs]) = .ok (.nx [p0, some (.int (c + sumC ts)), some (.loc P.length), x3', x4', x5', x6']) (P ++ [.dct kvs']) ∧
      DI kvs' (fun n => h n + sumF ts n)
  | [], c, kvs, h, x3, x4, x5, x6, _, d => ⟨x3, x4, x5, x6, kvs, by simp [sumC, forGo], d.congr fun n _ => by simp [sumF]⟩
  | t :: r, c, kvs, h, x3, x4, x5, x6, ht, d => by
    obtain ⟨t1, t2⟩ := ht t List.mem_cons_self
    obtain ⟨y5, y6, kvs1, e1, e2⟩ := inner_ok (C := C) (P := P) (f := t.f) (a := t.a) (p0 := p0) (p1 := some (.int (c + t.c * t.a))) (p3 := some (fmD t.c t.f)) (rowL t.f) kvs h x5 x6 (fun n hn => (row_sub _).subset hn) (rowL_nd _) (fun n hn => t2 n ((row_sub _).subset hn)) d
    obtain ⟨x3', x4', x5', x6', kvs', e3, e4⟩ := outer_ok (C := C) (P := P) (p0 := p0) r (c + t.c * t.a) kvs1 _ (some (fmD t.c t.f)) (some (.int t.a)) y5 y6 (fun t h => ht t (List.mem_cons_of_mem _ h)) e2
    refine ⟨x3', x4', x5', x6', kvs', ?_, e4.congr fun m hm => ?_⟩
    · have g := bn_mul (M := P ++ [.dct kvs]) t1
      show forGo _ _ (.tup [fmD t.c t.f, .int t.a] :: r.map Term.d) _ _ = _
      unfold forGo
      have s : sumC (t :: r) = t.c * t.a + sumC r := by simp [sumC]
      rw [s]
      have e3' := e3
      simp only [Int.add_assoc] at e3' e1 ⊢
      simp [f_sum_of_b1, fmD, g] at e1 e3' ⊢
      rw [e1]
      exact e3'
    · have s : sumF (t :: r) m = t.f m * t.a + sumF r m := by simp [sumF]
      rw [s]
      by_cases e : t.f m = 0
      · have : m ∉ rowL t.f := fun h => (row_mem hm).mp h e
        simp [this, e]
      · have : m ∈ rowL t.f := (row_mem hm).mpr e
        simp [this]
        omega
theorem fm_congr {c : Int} {f g : Str → Int} (h : ∀ n ∈ NL, f n = g n) : fmD c f = fmD c g := by
  have e : rowL f = rowL g := List.filter_congr fun n hn => by rw [h n hn]
  unfold fmD prsD
  rw [e]
  congr 4
  apply List.map_congr_left
  intro n hn
  rw [h n ((row_sub g).subset hn)]
theorem sum_of_ok {n : Nat} {ts : List Term} (h : ∀ t ∈ ts, t.ok) : Calc (callN T (n + 2)) "sum_of" [.lst (ts.map Term.d)] (fmD (sumC ts) (sumF ts)) := by
  intro M
  obtain ⟨x3, x4, x5, x6, kvs, e1, e2⟩ := outer_ok (C := callN T (n + 1)) (P := M) (p0 := some (.lst (ts.map Term.d))) ts 0 [] (fun _ => 0) none none none none h DI.nil
  refine own_callM (fn := f_sum_of) (by kernel_rfl) rfl rfl fm_pure ⟨[.dct kvs], ?_⟩
  simp at e1
  have e3 := form_of_ok (n := n) (c := sumC ts) (h := sumF ts) (at_last (M := M) (o := .dct kvs)) (e2.congr fun m _ => by simp)
  simp [f_sum_of]
  rw [e1]
  simp [e3]
theorem mul1 {i : Int} {b : Nat} (h : i.natAbs < 2 ^ b) (hb : b ≤ 900000) {a : Int} {c : Nat} (ha : a.natAbs < 2 ^ c) (hc : c ≤ 90000) : mulOk i a = true := by
  have key : ∀ {i : Int} {b : Nat}, i.natAbs < 2 ^ b → i.natAbs.log2 ≤ b := by
    intro i b h
    by_cases h0 : i.natAbs = 0
    · rw [h0]; simp
    · exact Nat.le_of_lt ((Nat.log2_lt h0).mpr h)
  have h1 := key h
  have h2 := key ha
  exact decide_eq_true (by omega)
/-- small numbers -/
structure Sm (b : Nat) (c : Int) (f : Str → Int) : Prop where
  c : c.natAbs < 2 ^ b
  f : ∀ n ∈ NL, (f n).natAbs < 2 ^ b
theorem Sm.ok {b k : Nat} {c a : Int} {f : Str → Int} (s : Sm b c f) (hb : b ≤ 900000) (ha : a.natAbs < 2 ^ k) (hk : k ≤ 90000) : (Term.mk c f a).ok := ⟨mul1 s.c hb ha hk, fun n hn => mul1 (s.f n hn) hb ha hk⟩
section
variable {n b b' : Nat} {c c' k : Int} {f f' : Str → Int}
theorem sum2 {a a' : Int} (h : (Term.mk c f a).ok) (h' : (Term.mk c' f' a').ok) : Calc (callN T (n + 2)) "sum_of" [.lst [.tup [fmD c f, .int a], .tup [fmD c' f', .int a']]] (fmD (c * a + c' * a') (fun n => f n * a + f' n * a')) := by
  have e := sum_of_ok (n := n) (ts := [⟨c, f, a⟩, ⟨c', f', a'⟩]) (by
    intro t ht
    rcases List.mem_cons.mp ht with rfl | ht
    · exact h
    · rw [List.mem_singleton] at ht; subst ht; exact h')
  have e1 : sumC [⟨c, f, a⟩, ⟨c', f', a'⟩] = c * a + c' * a' := by simp [sumC]
  have e2 : sumF [⟨c, f, a⟩, ⟨c', f', a'⟩] = fun n => f n * a + f' n * a' := by funext n; simp [sumF]
  rw [e1, e2] at e
  exact e
/-! ### a form put for a name -/
theorem factor_loop {C : Calls} {M : Sto} {x : Str} {p0 : Option D} : ∀ (l : List Str) (y2 y3 : Option D), (x ∈ l → forGo (.t [2, 3]) (fun env M => evSs C f_factor_in_b0 env M) (prsD l f) [p0, some (.str x), y2, y3] M = .ok (.ret (.int (f x))) M) ∧
    (x ∉ l → ∃ y2' y3', forGo (.t [2, 3]) (fun env M => evSs C f_factor_in_b0 env M) (prsD l f) [p0, some (.str x), y2, y3] M = .ok (.nx [p0, some (.str x), y2', y3']) M)
  | [], y2, y3 => ⟨fun h => (nomatch h), fun _ => ⟨y2, y3, rfl⟩⟩
  | m :: r, y2, y3 => by
    obtain ⟨i1, i2⟩ := factor_loop (C := C) (M := M) (x := x) (p0 := p0) r (some (.str m)) (some (.int (f m)))
    by_cases e : m = x
    · subst e
      refine ⟨fun _ => ?_, fun h => absurd List.mem_cons_self h⟩
      show forGo _ _ (.tup [.str m, .int (f m)] :: prsD r f) _ _ = _
      unfold forGo
      simp [f_factor_in_b0]
    · have e' : (m == x) = false := by simpa using e
      have s : ∀ o, forGo (.t [2, 3]) (fun env M => evSs C f_factor_in_b0 env M) (prsD r f) [p0, some (.str x), some (.str m), some (.int (f m))] M = o → forGo (.t [2, 3]) (fun env M => evSs C f_factor_in_b0 env M) (prsD (m :: r) f) [p0, some (.str x), y2, y3] M = o := by
        intro o h
        show forGo _ _ (.tup [.str m, .int (f m)] :: prsD r f) _ _ = _
        unfold forGo
        simp [f_factor_in_b0, e']
        exact h
      refine ⟨fun h => s _ (i1 ?_), fun h => ?_⟩
      · rcases List.mem_cons.mp h with h | h
        · exact absurd h.symm e
        · exact h
      · obtain ⟨y2', y3', h'⟩ := i2 fun z => h (List.mem_cons_of_mem _ z)
        exact ⟨y2', y3', s _ h'⟩
theorem factor_in_ok {x : Str} (hx : x ∈ NL) : Calc (callN T (n + 1)) "factor_in" [fmD c f, .str x] (.int (f x)) := by
  refine own_call (fn := f_factor_in) (by kernel_rfl) rfl rfl rfl fun M => ⟨[], ?_⟩
  rw [List.append_nil]
  obtain ⟨i1, i2⟩ := factor_loop (f := f) (C := callN T n) (M := M) (x := x) (p0 := some (fmD c f)) (rowL f) none none
  by_cases h : x ∈ rowL f
  · have e := i1 h
    simp [f_factor_in, fmD] at e ⊢
    rw [e]; rfl
  · obtain ⟨y2, y3, e⟩ := i2 h
    have h0 : f x = 0 := by
      by_cases h0 : f x = 0
      · exact h0
      · exact absurd ((row_mem hx).mpr h0) h
    simp [f_factor_in, fmD] at e ⊢
    rw [e, h0]; simp
def putF (f g : Str → Int) (x : Str) : Str → Int := fun n => (if n = x then 0 else f n) + g n * f x
end
/-! ### worths -/
def wd (l : List Str) (g : Str → Int) : List (Key × D) := l.map fun n => (Sum.inr n, .int (g n))
theorem pairs_prs {g : Str → Int} : ∀ l : List Str, pairsK (prsD l g) = some (wd l g)
  | [] => rfl
  | n :: r => by
    show (pairsK (prsD r g)).map _ = _
    rw [pairs_prs r]; rfl
theorem fold_wd {g : Str → Int} : ∀ (l : List Str) (acc : List (Key × D)), l.Nodup → (∀ n ∈ l, (Sum.inr n : Key) ∉ acc.map (·.1)) → (wd l g).foldl (fun a kv => putD kv.1 kv.2 a) acc = acc ++ wd l g
  | [], acc, _, _ => by simp [wd]
  | n :: r, acc, nd, h => by
    obtain ⟨n1, n2⟩ := List.nodup_cons.mp nd
    have e : putD (Sum.inr n) (D.int (g n)) acc = acc ++ [(Sum.inr n, .int (g n))] := by
      unfold putD
      rw [if_neg]
      rw [List.any_eq_true]
      rintro ⟨kv, h1, h2⟩
      exact h n List.mem_cons_self (List.mem_map.mpr ⟨kv, h1, of_decide_eq_true h2⟩)
    show (wd r g).foldl _ (putD (Sum.inr n) (D.int (g n)) acc) = _
    rw [e, fold_wd r _ n2 fun m hm => ?_]
    · simp [wd]
    · rw [List.map_append, List.mem_append]
      rintro (z | z)
      · exact h m (List.mem_cons_of_mem _ hm) z
      · simp at z
        subst z
        exact n1 hm
theorem dict_wt {S : Str → Bool} {g : Str → Int} {m : Bool} {M : Sto} : biD .dict m [wtD S g] M = .ok (.loc M.length) (M ++ [.dct (wd (NL.filter S) g)]) := by
  unfold wtD
  rw [bd_dict (pairs_prs _), fold_wd _ _ (NL_nd.sublist List.filter_sublist) (fun _ _ h => by simp at h)]
  rfl
theorem getK_wd {l : List Str} {g : Str → Int} {x : Str} : getK (wd l g) (Sum.inr x) = if x ∈ l then some (.int (g x)) else none := by
  induction l with
  | nil => rfl
  | cons n r ih =>
    unfold getK wd at *
    rw [List.map_cons, List.find?_cons]
    by_cases e : n = x
    · subst e; simp
    · have : decide ((Sum.inr n : Key) = Sum.inr x) = false := decide_eq_false (by simpa using e)
      simp only [this]
      rw [ih]
      simp [Ne.symm e]
theorem any_wd {l : List Str} {g : Str → Int} {x : Str} : ((wd l g).any fun kv => decide (kv.1 = Sum.inr x)) = decide (x ∈ l) := by
  rw [Bool.eq_iff_iff, List.any_eq_true, decide_eq_true_eq]
  constructor
  · rintro ⟨kv, h1, h2⟩
    obtain ⟨n, hn, rfl⟩ := List.mem_map.mp h1
    have h2 := of_decide_eq_true h2
    cases h2
    exact hn
  · intro h
    exact ⟨_, List.mem_map.mpr ⟨x, h, rfl⟩, decide_eq_true rfl⟩
/-- a form's worth -/
def wv (c : Int) (f G : Str → Int) : Int := c + (NL.map fun n => f n * G n).sum
theorem sum_row (f G : Str → Int) : ∀ l : List Str, ((l.filter fun n => f n != 0).map fun n => f n * G n).sum = (l.map fun n => f n * G n).sum
  | [] => rfl
  | n :: r => by
    rw [List.filter_cons, List.map_cons, List.sum_cons]
    by_cases e : f n = 0
    · simp [e]
      have := sum_row f G r
      simpa using this
    · have e' : (f n != 0) = true := by simpa using e
      rw [if_pos e', List.map_cons, List.sum_cons, sum_row f G r]
def gW (S : Str → Bool) (g : Str → Int) (n : Str) : Int := if S n then g n else 0
theorem mem_S {S : Str → Bool} {n : Str} (h : n ∈ NL) : n ∈ NL.filter S ↔ S n = true := by rw [List.mem_filter]; simp [h]
section
variable {n b b' : Nat} {c c' k : Int} {f f' g : Str → Int} {S : Str → Bool}
/-- what a dict of worths tells of the names -/
def WK (kvs : List (Key × D)) (G : Str → Int) : Prop := ∀ n ∈ NL, (getK kvs (Sum.inr n)).getD (.int 0) = .int (G n)
theorem wd_WK {S : Str → Bool} {g : Str → Int} : WK (wd (NL.filter S) g) (gW S g) := fun x hx => by
  rw [getK_wd]
  unfold gW
  by_cases h : S x = true
  · rw [if_pos ((mem_S hx).mpr h), if_pos h]; rfl
  · rw [if_neg fun z => h ((mem_S hx).mp z), if_neg h]; rfl
theorem worth_of_gen {M : Sto} {a : Nat} {kvs : List (Key × D)} {G : Str → Int} (hM : M[a]? = some (.dct kvs)) (hW : WK kvs G) (hm : ∀ n ∈ NL, mulOk (f n) (G n) = true) : callN T (n + 1) "worth_of" [fmD c f, .loc a] M = .ok (.int (wv c f G)) M := by
  refine own_callM (fn := f_worth_of) (by kernel_rfl) rfl rfl rfl ⟨[], ?_⟩
  rw [List.append_nil]
  simp [f_worth_of, fmD]
  rw [comp_pure (p := fun _ => true) (q := fun d => (match d with | .tup [.str x, .int i] => .int (i * G x) | _ => .non)) fun d hd => ?_]
  · have e : ((prsD (rowL f) f).filter fun _ => true).map (fun d => (match d with | .tup [.str x, .int i] => D.int (i * G x) | _ => .non)) = (rowL f).map fun n => D.int (f n * G n) := by
      rw [List.filter_eq_self.mpr (fun _ _ => rfl), prsD, List.map_map]; rfl
    rw [e]
    have e2 := bd_sum (M := M) (m := false) (ints_map (f := fun n => f n * G n) (rowL f))
    simp [e2]
    unfold wv
    rw [← sum_row f G NL]
    rfl
  · obtain ⟨x, hx, rfl⟩ := List.mem_map.mp hd
    have hx := (row_sub f).subset hx
    have e3 : mthD .get (.loc a) [.str x, .int 0] M = .ok (.int (G x)) M := by
      rw [md_get hM, hW x hx]
    refine ⟨_, rfl, rfl, fun _ => ?_⟩
    simp [f_worth_of_c0, kd_get hM, e3, bn_mul (hm x hx)]
theorem worth_of_ok {M : Sto} {a : Nat} (hM : M[a]? = some (.dct (wd (NL.filter S) g))) (hm : ∀ n ∈ NL, mulOk (f n) (gW S g n) = true) : callN T (n + 1) "worth_of" [fmD c f, .loc a] M = .ok (.int (wv c f (gW S g))) M := worth_of_gen hM wd_WK hm
end
/-! ### a worth is set -/
structure WI (kvs : List (Key × D)) (S : Str → Bool) (g : Str → Int) : Prop where
  nd : (kvs.map (·.1)).Nodup
  mem : ∀ kv ∈ kvs, ∃ n ∈ NL, S n = true ∧ kv = (Sum.inr n, D.int (g n))
  all : ∀ n ∈ NL, S n = true → (Sum.inr n : Key) ∈ kvs.map (·.1)
theorem wd_WI {S : Str → Bool} {g : Str → Int} : WI (wd (NL.filter S) g) S g := by
  have e : (wd (NL.filter S) g).map (·.1) = (NL.filter S).map Sum.inr := by unfold wd; rw [List.map_map]; rfl
  refine ⟨?_, fun kv hm => ?_, fun n hn h => ?_⟩
  · rw [e]
    exact List.pairwise_map.mpr ((NL_nd.sublist List.filter_sublist).imp fun h z => h (by simpa using z))
  · obtain ⟨n, hn, rfl⟩ := List.mem_map.mp hm
    obtain ⟨h1, h2⟩ := List.mem_filter.mp hn
    exact ⟨n, h1, h2, rfl⟩
  · rw [e]
    exact List.mem_map_of_mem ((mem_S hn).mpr h)
theorem WI.put {kvs : List (Key × D)} {S : Str → Bool} {g : Str → Int} (d : WI kvs S g) {x : Str} (hx : x ∈ NL) (v : Int) : WI (putD (Sum.inr x) (.int v) kvs) (fun n => S n || decide (n = x)) (fun n => if n = x then v else g n) := by
  unfold putD
  by_cases hk : (kvs.any fun kv => decide (kv.1 = Sum.inr x)) = true
  · rw [if_pos hk]
    have hmap : (kvs.map fun kv => if kv.1 = (Sum.inr x : Key) then (kv.1, D.int v) else kv).map (·.1) = kvs.map (·.1) := by
      rw [List.map_map]
      apply List.map_congr_left
      intro kv _
      show (if kv.1 = (Sum.inr x : Key) then (kv.1, D.int v) else kv).1 = kv.1
      split <;> rfl
    refine ⟨by rw [hmap]; exact d.nd, fun kv hm => ?_, fun m hm h0 => ?_⟩
    · obtain ⟨kv0, h1, rfl⟩ := List.mem_map.mp hm
      obtain ⟨m, hm1, hS, rfl⟩ := d.mem kv0 h1
      by_cases e : m = x
      · subst e; exact ⟨m, hm1, by simp, by simp⟩
      · exact ⟨m, hm1, by simp [hS], by rw [if_neg (by simpa using e), if_neg e]⟩
    · rw [hmap]
      by_cases e : m = x
      · subst e
        rw [List.any_eq_true] at hk
        obtain ⟨kv, h1, h2⟩ := hk
        exact List.mem_map.mpr ⟨kv, h1, of_decide_eq_true h2⟩
      · simp [e] at h0
        exact d.all m hm h0
  · rw [if_neg hk]
    have hnk : (Sum.inr x : Key) ∉ kvs.map (·.1) := by
      intro hm
      obtain ⟨kv, h1, h2⟩ := List.mem_map.mp hm
      exact hk (List.any_eq_true.mpr ⟨kv, h1, decide_eq_true h2⟩)
    refine ⟨?_, fun kv hm => ?_, fun m hm h0 => ?_⟩
    · rw [List.map_append, List.nodup_append]
      refine ⟨d.nd, by simp, fun a ha b hb => ?_⟩
      simp at hb
      subst hb
      intro e; subst e; exact hnk ha
    · rcases List.mem_append.mp hm with hm | hm
      · obtain ⟨m, hm1, hS, rfl⟩ := d.mem kv hm
        have e : m ≠ x := fun e => hnk (List.mem_map.mpr ⟨_, hm, by rw [e]⟩)
        exact ⟨m, hm1, by simp [hS], by rw [if_neg e]⟩
      · rw [List.mem_singleton] at hm
        subst hm
        exact ⟨x, hx, by simp, by rw [if_pos rfl]⟩
    · rw [List.map_append, List.mem_append]
      by_cases e : m = x
      · subst e; exact .inr (by simp)
      · simp [e] at h0
        exact .inl (d.all m hm h0)
theorem WI.sorted {kvs : List (Key × D)} {S : Str → Bool} {g : Str → Int} (d : WI kvs S g) : ∃ ks : List Str, strsD (kvs.map fun kv => keyD kv.1) = some ks ∧ sortStr ks = NL.filter S ∧ ks.length < 64 := by
  have key : ∀ l : List (Key × D), (∀ kv ∈ l, ∃ n ∈ NL, S n = true ∧ kv = (Sum.inr n, D.int (g n))) → ∃ ks : List Str, l.map (·.1) = ks.map Sum.inr ∧ strsD (l.map fun kv => keyD kv.1) = some ks ∧ ∀ k ∈ ks, k ∈ NL ∧ S k = true := by
    intro l
    induction l with
    | nil => intro _; exact ⟨[], rfl, rfl, fun _ h => (nomatch h)⟩
    | cons kv r ih =>
      intro hm
      obtain ⟨n, hn, hS, rfl⟩ := hm kv List.mem_cons_self
      obtain ⟨ks, h1, h2, h3⟩ := ih fun kv hk => hm kv (List.mem_cons_of_mem _ hk)
      refine ⟨n :: ks, by rw [List.map_cons, List.map_cons, h1], by rw [List.map_cons]; show (strsD _).map _ = _; rw [h2]; rfl, fun k hk => ?_⟩
      rcases List.mem_cons.mp hk with rfl | hk
      · exact ⟨hn, hS⟩
      · exact h3 k hk
  obtain ⟨ks, h1, h2, h3⟩ := key kvs d.mem
  have nd : ks.Nodup := by
    have h4 := d.nd
    rw [h1] at h4
    exact (List.pairwise_map.mp h4).imp fun {a b} h e => h (by rw [e])
  have e := sort_pick (p := S) nd (fun k hk => (h3 k hk).1) fun n hn hp => by
    have h5 := d.all n hn hp
    rw [h1] at h5
    obtain ⟨m, hm, e⟩ := List.mem_map.mp h5
    cases e
    exact hm
  have e2 : (sortStr ks).filter S = sortStr ks := List.filter_eq_self.mpr fun n hn => (h3 n ((sortStr_perm ks).mem_iff.mp hn)).2
  rw [e2] at e
  refine ⟨ks, h2, e, ?_⟩
  have e3 := congrArg List.length e
  rw [(sortStr_perm ks).length_eq] at e3
  have h4 : (NL.filter S).length ≤ NL.length := List.length_filter_le _ _
  have h5 : NL.length = 7 := rfl
  omega
theorem WI.get {kvs : List (Key × D)} {S : Str → Bool} {g : Str → Int} (d : WI kvs S g) {x : Str} (hx : x ∈ NL) (hS : S x = true) : getK kvs (Sum.inr x) = some (.int (g x)) := by
  cases e : getK kvs (Sum.inr x) with
  | none => exact absurd (d.all x hx hS) (find_key.mp e)
  | some v =>
    unfold getK at e
    cases e2 : kvs.find? (fun kv => decide (kv.1 = Sum.inr x)) with
    | none => rw [e2] at e; cases e
    | some kv =>
      rw [e2] at e
      obtain ⟨m, hm, _, rfl⟩ := d.mem kv (List.mem_of_find?_eq_some e2)
      have h2 := List.find?_some e2
      have h3 : (Sum.inr m : Key) = Sum.inr x := of_decide_eq_true h2
      cases h3
      exact e.symm
/-! ### the same -/
mutual
/-- numbers, texts, tuples and lists of them, so deep at most -/
def D.dat : Nat → D → Bool
  | _, .int _ => true
  | _, .str _ => true
  | _, .bl _ => true
  | _, .non => true
  | k + 1, .tup xs => D.dats k xs
  | k + 1, .lst xs => D.dats k xs
  | _, _ => false
def D.dats : Nat → List D → Bool
  | _, [] => true
  | k, x :: xs => D.dat k x && D.dats k xs
end
theorem dats_all {k : Nat} : ∀ {xs : List D}, D.dats k xs = true → ∀ d ∈ xs, D.dat k d = true
  | [], _, d, h => (nomatch h)
  | x :: r, h, d, hd => by
    unfold D.dats at h
    rw [Bool.and_eq_true] at h
    rcases List.mem_cons.mp hd with rfl | hd
    · exact h.1
    · exact dats_all h.2 d hd
theorem zip_same : ∀ {xs : List D} {d : D}, d ∈ zipD xs xs → ∃ x ∈ xs, d = .pr [x, x]
  | [], d, h => by simp [zipD] at h
  | x :: r, d, h => by
    simp [zipD] at h
    rcases h with rfl | h
    · exact ⟨x, List.mem_cons_self, rfl⟩
    · obtain ⟨y, hy, e⟩ := zip_same h
      exact ⟨y, List.mem_cons_of_mem _ hy, e⟩
theorem eq_nil {M : Sto} : eqD M (.lst []) (.lst []) = some true := rfl
theorem same_loop {C : Calls} {M : Sto} {xs : List D} {env : En} (h : ∀ d ∈ xs, C "_law_same" [d, d] M = .ok (.bl true) M) (he : env.length = 4) :
    compGo (.t [2, 3]) (fun env M => evC C (.som f_law_same_k0) env M) (fun env M => evE C f_law_same_c0 env M) env (zipD xs xs) M = .ok [] M := by
  rw [comp_pure (p := fun _ => false) (q := fun d => d) fun d hd => ?_]
  · rw [List.filter_eq_nil_iff.mpr (fun _ _ => by decide)]; rfl
  · obtain ⟨x, hx, rfl⟩ := zip_same hd
    match env, he with
    | [e0, e1, e2, e3], _ =>
      refine ⟨_, rfl, ?_, fun z => by cases z⟩
      simp [f_law_same_k0, h x hx]
theorem law_same_ok : ∀ {k n : Nat} {d : D}, D.dat k d = true → Calc (callN T (n + k + 1)) "_law_same" [d, d] (.bl true)
  | k, n, .int i, _ => own_call (fn := f_law_same) (by kernel_rfl) rfl rfl rfl fun M => ⟨[], by rw [List.append_nil]; simp [f_law_same]⟩
  | k, n, .str x, _ => own_call (fn := f_law_same) (by kernel_rfl) rfl rfl rfl fun M => ⟨[], by rw [List.append_nil]; simp [f_law_same]⟩
  | 0, n, .tup xs, h => by cases h
  | 0, n, .lst xs, h => by cases h
  | k + 1, n, .tup xs, h => by
    refine own_call (fn := f_law_same) (by kernel_rfl) rfl rfl rfl fun M => ⟨[], ?_⟩
    rw [List.append_nil]
    have e := same_loop (C := callN T (n + k + 1)) (M := M) (xs := xs) (env := [some (.tup xs), some (.tup xs), none, none]) (fun d hd => law_same_ok (k := k) (n := n) (dats_all h d hd) M) rfl
    simp [f_law_same] at e ⊢
    rw [show n + (k + 1) = n + k + 1 from rfl, e]
    simp [eq_nil]
  | k + 1, n, .lst xs, h => by
    refine own_call (fn := f_law_same) (by kernel_rfl) rfl rfl rfl fun M => ⟨[], ?_⟩
    rw [List.append_nil]
    have e := same_loop (C := callN T (n + k + 1)) (M := M) (xs := xs) (env := [some (.lst xs), some (.lst xs), none, none]) (fun d hd => law_same_ok (k := k) (n := n) (dats_all h d hd) M) rfl
    simp [f_law_same] at e ⊢
    rw [show n + (k + 1) = n + k + 1 from rfl, e]
    simp [eq_nil]
  | k, n, .non, _ => own_call (fn := f_law_same) (by kernel_rfl) rfl rfl rfl fun M => ⟨[], by rw [List.append_nil]; simp [f_law_same]⟩
  | k, n, .bl b, _ => own_call (fn := f_law_same) (by kernel_rfl) rfl rfl rfl fun M => ⟨[], by rw [List.append_nil]; cases b <;> simp [f_law_same]⟩
  | 0, n, .scr _, h => by cases h
  | 0, n, .loc _, h => by cases h
  | 0, n, .pr _, h => by cases h
  | _ + 1, n, .scr _, h => by cases h
  | _ + 1, n, .loc _, h => by cases h
  | _ + 1, n, .pr _, h => by cases h
theorem prs_dat {l : List Str} {g : Str → Int} {k : Nat} : D.dats (k + 1) (prsD l g) = true := by
  induction l with
  | nil => rfl
  | cons x r ih => show (D.dat (k + 1) (.tup [.str x, .int (g x)]) && D.dats (k + 1) (prsD r g)) = true; rw [ih]; cases k <;> rfl
theorem fm_dat {c : Int} {f : Str → Int} {k : Nat} : D.dat (k + 3) (fmD c f) = true := by
  show (D.dat (k + 2) (.int c) && (D.dats (k + 1) (prsD (rowL f) f) && true)) = true
  rw [prs_dat]; rfl
end K21T
end Z


/-! K21B: the draws (cells cut at 10 ** 60). -/
namespace Z
namespace K21T
open PySem L2
variable {Rs : Sto}
def dealM (R : Sto) (cells : List Int) (b : Int) : Sto := .lst (cells.map .int) :: .lst [.loc 0, .int b] :: R
structure Deal (Rs : Sto) (M : Sto) : Prop where
  is : ∃ cells b, M = dealM Rs cells b ∧ (∀ c ∈ cells, 0 ≤ c) ∧ 0 ≤ b ∧ b < 2147483647 ∧ cells.length ≤ 48
section
variable {C : Calls} {cells : List Int} {b bound : Int} {x2 : Option D}
theorem d0 : (dealM Rs cells b)[0]? = some (.lst (cells.map .int)) := rfl
theorem d1 : (dealM Rs cells b)[1]? = some (.lst [.loc 0, .int b]) := rfl
theorem i10 : idxD (dealM Rs cells b) (.loc 1) (.int 0) = some (.loc 0) := by rw [ix_loc d1]; simp
theorem i11 : idxD (dealM Rs cells b) (.loc 1) (.int 1) = some (.int b) := by rw [ix_loc d1]; simp
theorem fits_ints {k : Nat} : ∀ {l : List Int}, D.fits k (l.map .int) = true
  | [] => by rw [List.map_nil, D.fits]
  | x :: r => by
    rw [List.map_cons, D.fits, fits_ints]
    cases k <;> rfl
theorem eq_empty : eqD (dealM Rs cells b) (.loc 0) (.lst []) = some cells.isEmpty := by
  have h1 : D.seen (dealM Rs cells b) (.loc 0) = .lst (cells.map .int) := rfl
  unfold eqD
  rw [if_neg (by decide), h1]
  have h2 : (D.fit 64 (.lst (cells.map .int)) && D.fit 64 (D.seen (dealM Rs cells b) (.lst []))) = true := by
    have e1 : D.fit 64 (.lst (cells.map .int)) = true := by show D.fits 63 _ = true; exact fits_ints
    rw [e1]; rfl
  dsimp only
  rw [if_pos h2]
  cases cells <;> rfl
theorem w_empty (h : cells = []) : evE C f_law_any_w0 [some (.loc 1), some (.int bound), x2] (dealM Rs cells b) = .ok (.bl false) (dealM Rs cells b) := by
  subst h
  simp [f_law_any_w0, i10, eq_empty]
theorem w_last {pre : List Int} {c : Int} : evE C f_law_any_w0 [some (.loc 1), some (.int bound), x2] (dealM Rs (pre ++ [c]) b) = .ok (.bl (decide (c = 0))) (dealM Rs (pre ++ [c]) b) := by
  have h : idxD (dealM Rs (pre ++ [c]) b) (.loc 0) (.int (-1)) = some (.int c) := by
    rw [ix_loc d0, List.map_append]
    exact it_last
  have e : (pre ++ [c]).isEmpty = false := by simp
  simp [f_law_any_w0, i10, eq_empty, h, e]
theorem b_pop {pre : List Int} {c : Int} : evSs C f_law_any_b0 [some (.loc 1), some (.int bound), x2] (dealM Rs (pre ++ [c]) b) = .ok (.nx [some (.loc 1), some (.int bound), x2]) (dealM Rs pre b) := by
  have h0 : (dealM Rs (pre ++ [c]) b)[0]? = some (.lst (pre.map D.int ++ [.int c])) := by rw [d0, List.map_append]; rfl
  have h1 := md_pop h0
  have h2 : (dealM Rs (pre ++ [c]) b).set 0 (.lst (pre.map .int)) = dealM Rs pre b := rfl
  rw [h2] at h1
  simp [f_law_any_b0, i10, kd_pop h0, h1]
theorem while_ok : ∀ (k : Nat) (cells : List Int), cells.length = k → ∃ cells', whlN (fun env M => evE C f_law_any_w0 env M) (fun env M => evSs C f_law_any_b0 env M) (k + 1) [some (.loc 1), some (.int bound), x2] (dealM Rs cells b) = .ok (.nx [some (.loc 1), some (.int bound), x2]) (dealM Rs cells' b) ∧ (∀ c ∈ cells', c ∈ cells) ∧ cells'.length ≤ cells.length
  | 0, cells, h => by
    have h := List.eq_nil_of_length_eq_zero h
    refine ⟨cells, ?_, fun _ h => h, Nat.le_refl _⟩
    unfold whlN
    dsimp only
    rw [w_empty h]
    rfl
  | k + 1, cells, h => by
    rcases List.eq_nil_or_concat cells with e | ⟨pre, c, e⟩
    · rw [e] at h; cases h
    · rw [List.concat_eq_append] at e
      subst e
      rw [List.length_append] at h
      have hk : pre.length = k := by simpa using h
      by_cases hc : c = 0
      · obtain ⟨cells', e1, e2, e3⟩ := while_ok k pre hk
        refine ⟨cells', ?_, fun c hc => List.mem_append_left _ (e2 c hc), by rw [List.length_append]; omega⟩
        unfold whlN
        rw [w_last, decide_eq_true hc]
        dsimp only [out_ok]
        rw [b_pop]
        exact e1
      · refine ⟨pre ++ [c], ?_, fun _ h => h, Nat.le_refl _⟩
        unfold whlN
        rw [w_last, decide_eq_false hc]
        rfl
end
theorem law_any_ok {n : Nat} {M : Sto} {bound : Int} (d : Deal Rs M) (h0 : 0 < bound) (hd : divOk bound = true) : ∃ r M', callN T (n + 1) "_law_any" [.loc 1, .int bound] M = .ok (.int r) M' ∧ Deal Rs M' ∧ 0 ≤ r ∧ r < bound := by
  obtain ⟨cells, b, rfl, hc, hb0, hb1, hl⟩ := d.is
  obtain ⟨cells', e1, e2, e3⟩ := while_ok (C := callN T n) (b := b) (bound := bound) (x2 := none) cells.length cells rfl
  have e4 := whl_go (n := cells.length + 1) (c := fun env M => evE (callN T n) f_law_any_w0 env M) (b := fun env M => evSs (callN T n) f_law_any_b0 env M) (env := [some (.loc 1), some (.int bound), none]) (M := dealM Rs cells b) (by rw [e1]; exact fun h => by cases h)
  rw [e1] at e4
  rcases List.eq_nil_or_concat cells' with e | ⟨pre, c, e⟩
  · subst e
    have g1 : mulOk b 40693 = true := mul1 (b := 31) (c := 17) (by omega) (by decide) (by decide) (by decide)
    have g2 := bn_mul (M := dealM Rs [] b) g1
    have g3 := bn_mod (M := dealM Rs [] b) (i := b * 40693 + 71) (j := 2147483647) (by decide)
    have g4 := si_lst (M := dealM Rs [] b) (v := .int ((b * 40693 + 71) % 2147483647)) (i := 1) d1 (by simp)
    have g5 : (dealM Rs [] b).set 1 (.lst ([D.loc 0, .int b].set (Int.toNat 1) (.int ((b * 40693 + 71) % 2147483647)))) = dealM Rs [] ((b * 40693 + 71) % 2147483647) := rfl
    rw [g5] at g4
    have g6 := bn_div (M := dealM Rs [] ((b * 40693 + 71) % 2147483647)) (i := (b * 40693 + 71) % 2147483647) (j := 64) (by decide)
    have g7 := bn_mod (M := dealM Rs [] ((b * 40693 + 71) % 2147483647)) (i := (b * 40693 + 71) % 2147483647 / 64) h0
    refine ⟨(b * 40693 + 71) % 2147483647 / 64 % bound, dealM Rs [] ((b * 40693 + 71) % 2147483647), ?_, ⟨[], _, rfl, fun _ h => (nomatch h), by omega, by omega, by decide⟩, Int.emod_nonneg _ (by omega), Int.emod_lt_of_pos _ h0⟩
    refine free_call (fn := f_law_any) (by kernel_rfl) rfl rfl ?_
    simp [f_law_any] at e4 ⊢
    rw [e4]
    simp [i10, i11, eq_empty, g2, g3, g4, g6, g7]
  · rw [List.concat_eq_append] at e
    subst e
    have hcn : 0 ≤ c := hc c (e2 c (by simp))
    have h1 : (dealM Rs (pre ++ [c]) b)[0]? = some (.lst (pre.map D.int ++ [.int c])) := by rw [d0, List.map_append]; rfl
    have h2 := md_pop h1
    have h3 : (dealM Rs (pre ++ [c]) b).set 0 (.lst (pre.map .int)) = dealM Rs pre b := rfl
    rw [h3] at h2
    have hlen : pre.length ≤ 47 := by rw [List.length_append] at e3; simp at e3; omega
    have h4 := md_append (d := .int (c / bound)) (d0 (Rs := Rs) (cells := pre) (b := b)) (by rw [List.length_map]; omega)
    have h5 : (dealM Rs pre b).set 0 (.lst (pre.map .int ++ [.int (c / bound)])) = dealM Rs (pre ++ [c / bound]) b := by
      show MO.lst (pre.map .int ++ [.int (c / bound)]) :: _ = MO.lst ((pre ++ [c / bound]).map .int) :: _
      rw [List.map_append]; rfl
    rw [h5] at h4
    have h6 := bn_div (M := dealM Rs pre b) (i := c) hd
    have h7 := bn_mod (M := dealM Rs (pre ++ [c / bound]) b) (i := c) h0
    have h8 : (pre ++ [c]).isEmpty = false := by simp
    refine ⟨c % bound, dealM Rs (pre ++ [c / bound]) b, ?_, ⟨pre ++ [c / bound], b, rfl, fun y hy => ?_, hb0, hb1, by rw [List.length_append]; simp; omega⟩, Int.emod_nonneg _ (by omega), Int.emod_lt_of_pos _ h0⟩
    · refine free_call (fn := f_law_any) (by kernel_rfl) rfl rfl ?_
      simp [f_law_any] at e4 ⊢
      rw [e4]
      simp [i10, eq_empty, h8, kd_pop h1, h2, kd_append (d0 (Rs := Rs)), h4, h6, h7]
    · rcases List.mem_append.mp hy with hy | hy
      · exact hc y (e2 y (List.mem_append_left _ hy))
      · rw [List.mem_singleton] at hy
        rw [hy]
        exact Int.ediv_nonneg hcn (by omega)
theorem bn_pow {i j : Int} {M : Sto} (h : powOk i j = true) : binD .pow (.int i) (.int j) M = .ok (.int (i ^ j.toNat)) M := by show (if powOk i j then _ else _) = _; rw [if_pos h]
theorem blend_loop {C : Calls} {M : Sto} {p0 p1 p2 : Option D} : ∀ (cells : List Int) (b : Int) (y : Option D), 0 ≤ b → b < 2147483647 → ∃ b' y', forGo (.n 4) (fun env M => evSs C f_law_draw_b0 env M) (cells.map .int) [p0, p1, p2, some (.int b), y] M = .ok (.nx [p0, p1, p2, some (.int b'), y']) M ∧ 0 ≤ b' ∧ b' < 2147483647
  | [], b, y, h0, h1 => ⟨b, y, rfl, h0, h1⟩
  | c :: r, b, y, h0, h1 => by
    obtain ⟨b', y', e, g0, g1⟩ := blend_loop (C := C) (M := M) (p0 := p0) (p1 := p1) (p2 := p2) r ((b * 48271 + c % 2147483549 + 11) % 2147483647) (some (.int c)) (by omega) (by omega)
    refine ⟨b', y', ?_, g0, g1⟩
    have k1 := bn_mul (M := M) (mul1 (i := b) (b := 31) (a := 48271) (c := 17) (by omega) (by decide) (by decide) (by decide))
    have k2 := bn_mod (M := M) (i := c) (j := 2147483549) (by decide)
    have k3 := bn_mod (M := M) (i := b * 48271 + c % 2147483549 + 11) (j := 2147483647) (by decide)
    rw [List.map_cons]
    unfold forGo
    simp [f_law_draw_b0, k1, k2, k3]
    exact e
theorem law_draw_ok {n : Nat} {ns : List Int} : ∃ M', callN T (n + 1) "_law_draw" [.scr (ns.map .int), .int 21] [] = .ok (.loc 1) M' ∧ Deal [] M' := by
  have hc : cut (ns.map D.int) none (some 48) = (ns.take 48).map D.int := by rw [List.map_take]; exact cut_to (k := 48)
  obtain ⟨cs, hcs⟩ : ∃ cs, cs = (ns.take 48).map fun i => (if i < 0 then -i else i) % 1000000000000000000000000000000000000000000000000000000000000 := ⟨_, rfl⟩
  have hl : cs.length ≤ 48 := by rw [hcs, List.length_map, List.length_take]; omega
  obtain ⟨b', y', e, g0, g1⟩ := blend_loop (C := callN T n) (M := []) (p0 := some (.scr (ns.map .int))) (p1 := some (.int 21)) (p2 := some (.lst (cs.map .int))) cs (7919 + 104729 * 21) none (by decide) (by decide)
  have k1 := bn_mul (M := []) (show mulOk 104729 21 = true by decide +kernel)
  have k2 : binD .pow (.int 10) (.int 18) [] = .ok (.int 1000000000000000000) [] := bn_pow (by decide +kernel)
  have k3 : binD .pow (.int 10) (.int 60) [] = .ok (.int 1000000000000000000000000000000000000000000000000000000000000) [] := bn_pow (by decide +kernel)
  have k4 : ∀ i : Int, binD .mod (.int i) (.int 1000000000000000000000000000000000000000000000000000000000000) [] = .ok (.int (i % 1000000000000000000000000000000000000000000000000000000000000)) [] := fun i => bn_mod (by decide)
  have c1 : ∀ env, compGo (.n 4) (fun env M => Res.ok true M) (fun env M => evE (callN T n) f_law_draw_c0 env M) [some (.scr (ns.map .int)), some (.int 21), none, none, env] ((ns.take 48).map D.int) [] = .ok (cs.map .int) [] := by
    intro env
    rw [comp_pure (p := fun _ => true) (q := fun d => (match d with | .int i => .int ((if i < 0 then -i else i) % 1000000000000000000000000000000000000000000000000000000000000) | _ => .non)) fun d hd => ?_]
    · rw [List.filter_eq_self.mpr (fun _ _ => rfl), List.map_map, hcs, List.map_map]; rfl
    · obtain ⟨c, _, rfl⟩ := List.mem_map.mp hd
      exact ⟨_, rfl, rfl, fun _ => by simp [f_law_draw_c0, k3, k4]⟩
  have c2 : ∀ y, compGo (.n 4) (fun env M => (evE (callN T n) f_law_draw_k0 env M).bind fun x M1 => ofO (asB x) M1) (fun env M => evE (callN T n) f_law_draw_c1 env M) [some (.scr (ns.map .int)), some (.int 21), some (.lst (cs.map .int)), some (.int b'), y] (cs.map .int) [] = .ok ((cs.filter fun c => decide (1000000000000000000 ≤ c)).map .int) [] := by
    intro y
    rw [comp_pure (p := fun d => (match d with | .int c => decide (1000000000000000000 ≤ c) | _ => false)) (q := fun d => d) fun d hd => ?_]
    · rw [List.map_id', List.filter_map]; rfl
    · obtain ⟨c, _, rfl⟩ := List.mem_map.mp hd
      exact ⟨_, rfl, by simp [f_law_draw_k0, k2], fun _ => by simp [f_law_draw_c1]⟩
  clear hcs
  refine ⟨dealM [] (cs.filter fun c => decide (1000000000000000000 ≤ c)).reverse b', ?_, ⟨_, b', rfl, fun c h => ?_, g0, g1, ?_⟩⟩
  · refine free_call (fn := f_law_draw) (by kernel_rfl) rfl rfl ?_
    simp only [List.map_take] at c1
    simp [f_law_draw, slcD, hc]
    rw [c1]
    simp [k1] at e ⊢
    rw [e]
    simp
    rw [c2]
    simp [dealM]
  · rw [List.mem_reverse] at h
    have := of_decide_eq_true (List.mem_filter.mp h).2
    omega
  · rw [List.length_reverse]
    exact Nat.le_trans (List.length_filter_le _ _) hl
theorem law_of_ok {n : Nat} {M : Sto} {xs : List D} (d : Deal Rs M) (h0 : 0 < xs.length) (h1 : xs.length ≤ 1000) : ∃ x ∈ xs, ∃ M', callN T (n + 2) "_law_of" [.loc 1, .lst xs] M = .ok x M' ∧ Deal Rs M' := by
  have hd : divOk (xs.length : Int) = true := by
    refine decide_eq_true ⟨by omega, ?_⟩
    have : (xs.length : Int).natAbs = xs.length := by simp
    rw [this]
    have h2 : xs.length.log2 ≤ xs.length := Nat.log2_le_self _
    omega
  obtain ⟨r, M', e1, e2, e3, e4⟩ := law_any_ok (n := n) (bound := xs.length) d (by omega) hd
  have hr : r.toNat < xs.length := by omega
  have hi : itemAt xs r = some xs[r.toNat] := by
    show (ixN xs.length r).bind _ = _
    unfold ixN
    rw [if_pos e3, if_pos (by omega)]
    exact List.getElem?_eq_getElem hr
  refine ⟨xs[r.toNat], List.getElem_mem hr, M', ?_, e2⟩
  refine free_call (fn := f_law_of) (by kernel_rfl) rfl rfl ?_
  simp [f_law_of, e1, hi]
inductive F2 (R : D → D → Prop) : List D → List D → Prop
  | nil : F2 R [] []
  | cons {a b : D} {l m : List D} : R a b → F2 R l m → F2 R (a :: l) (b :: m)
/-- a comprehension that draws -/
theorem comp_draw {t : Tg} {el : En → Sto → Res D} {env : En} {R : D → D → Prop} : ∀ {items : List D} {M : Sto}, Deal Rs M → (∀ d ∈ items, ∀ M, Deal Rs M → ∃ e y M', asgD t d env = some e ∧ el e M = .ok y M' ∧ Deal Rs M' ∧ R d y) →
    ∃ ys M', compGo t (fun _ M => .ok true M) el env items M = .ok ys M' ∧ Deal Rs M' ∧ F2 R items ys
  | [], M, dl, _ => ⟨[], M, rfl, dl, .nil⟩
  | d :: r, M, dl, h => by
    obtain ⟨e, y, M1, h1, h2, h3, h4⟩ := h d List.mem_cons_self M dl
    obtain ⟨ys, M', h5, h6, h7⟩ := comp_draw (t := t) (el := el) (env := env) (R := R) (items := r) h3 fun d hd => h d (List.mem_cons_of_mem _ hd)
    refine ⟨y :: ys, M', ?_, h6, .cons h4 h7⟩
    unfold compGo
    rw [h1]
    show ((el e M).calm.bind fun y M2 => (compGo t (fun _ M => .ok true M) el env r M2).bind fun ys M3 => Res.ok (y :: ys) M3) = _
    rw [h2]
    show (compGo t (fun _ M => .ok true M) el env r M1).bind (fun ys M3 => Res.ok (y :: ys) M3) = _
    rw [h5]; rfl
/-- .. whose own things stay behind in the store -/
theorem comp_grow {t : Tg} {el : En → Sto → Res D} {env : En} {R : D → D → Prop} : ∀ {items : List D} {Rs : Sto} {M : Sto}, Deal Rs M → (∀ d ∈ items, ∀ X M, Deal (Rs ++ X) M → ∃ e y X' M', asgD t d env = some e ∧ el e M = .ok y M' ∧ Deal (Rs ++ (X ++ X')) M' ∧ R d y) →
    ∃ ys X M', compGo t (fun _ M => .ok true M) el env items M = .ok ys M' ∧ Deal (Rs ++ X) M' ∧ F2 R items ys
  | [], Rs, M, dl, _ => ⟨[], [], M, rfl, by simpa using dl, .nil⟩
  | d :: r, Rs, M, dl, h => by
    obtain ⟨e, y, X1, M1, h1, h2, h3, h4⟩ := h d List.mem_cons_self [] M (by simpa using dl)
    rw [List.nil_append] at h3
    obtain ⟨ys, X, M', h5, h6, h7⟩ := comp_grow (t := t) (el := el) (env := env) (R := R) (items := r) h3 fun d hd X M dl => by
      obtain ⟨e, y, X2, M2, g1, g2, g3, g4⟩ := h d (List.mem_cons_of_mem _ hd) (X1 ++ X) M (by rw [← List.append_assoc]; exact dl)
      exact ⟨e, y, X2, M2, g1, g2, by rw [List.append_assoc, ← List.append_assoc X1, ]; exact g3, g4⟩
    refine ⟨y :: ys, X1 ++ X, M', ?_, by rw [← List.append_assoc]; exact h6, .cons h4 h7⟩
    unfold compGo
    rw [h1]
    show ((el e M).calm.bind fun y M2 => (compGo t (fun _ M => .ok true M) el env r M2).bind fun ys M3 => Res.ok (y :: ys) M3) = _
    rw [h2]
    show (compGo t (fun _ M => .ok true M) el env r M1).bind (fun ys M3 => Res.ok (y :: ys) M3) = _
    rw [h5]; rfl
/-- a comprehension whose reckoning leaves things behind -/
theorem comp_ext {t : Tg} {c : En → Sto → Res Bool} {el : En → Sto → Res D} {env : En} {p : D → Bool} {q : D → D} : ∀ {items : List D} {M : Sto}, (∀ d ∈ items, ∀ X, ∃ e X1, asgD t d env = some e ∧ c e (M ++ X) = .ok (p d) (M ++ (X ++ X1)) ∧ (p d = true → ∃ X2, el e (M ++ (X ++ X1)) = .ok (q d) (M ++ (X ++ X1 ++ X2)))) →
    ∃ X, compGo t c el env items M = .ok ((items.filter p).map q) (M ++ X)
  | [], M, _ => ⟨[], by rw [List.append_nil]; rfl⟩
  | d :: r, M, h => by
    obtain ⟨e, X1, h1, h2, h3⟩ := h d List.mem_cons_self []
    rw [List.append_nil, List.nil_append] at h2
    rw [List.nil_append] at h3
    have go : ∀ Y, ∃ X, compGo t c el env r (M ++ Y) = .ok ((r.filter p).map q) (M ++ Y ++ X) := fun Y => comp_ext (items := r) (M := M ++ Y) fun d hd X => by
      obtain ⟨e, X1, g1, g2, g3⟩ := h d (List.mem_cons_of_mem _ hd) (Y ++ X)
      refine ⟨e, X1, g1, by simpa [List.append_assoc] using g2, fun hp => ?_⟩
      obtain ⟨X2, g4⟩ := g3 hp
      exact ⟨X2, by simpa [List.append_assoc] using g4⟩
    cases hp : p d with
    | false =>
      obtain ⟨X, e5⟩ := go X1
      refine ⟨X1 ++ X, ?_⟩
      unfold compGo
      rw [h1]
      dsimp only
      rw [h2]
      simp only [calm_ok, bind_ok, hp, Bool.false_eq_true, if_false, List.filter_cons]
      rw [e5, List.append_assoc]
    | true =>
      obtain ⟨X2, h4⟩ := h3 hp
      obtain ⟨X, e5⟩ := go (X1 ++ X2)
      refine ⟨X1 ++ X2 ++ X, ?_⟩
      unfold compGo
      rw [h1]
      dsimp only
      rw [h2]
      simp only [calm_ok, bind_ok, hp, if_true, List.filter_cons, List.map_cons]
      rw [h4]
      simp only [calm_ok, bind_ok]
      rw [e5]
      simp only [bind_ok, List.append_assoc]
/-- .. over a row of things that stand for values -/
theorem comp_extA {α : Type} {dd : α → D} {t : Tg} {c : En → Sto → Res Bool} {el : En → Sto → Res D} {env : En} {p : α → Bool} {q : α → D} : ∀ {l : List α} {M : Sto}, (∀ a ∈ l, ∀ X, ∃ e X1, asgD t (dd a) env = some e ∧ c e (M ++ X) = .ok (p a) (M ++ (X ++ X1)) ∧ (p a = true → ∃ X2, el e (M ++ (X ++ X1)) = .ok (q a) (M ++ (X ++ X1 ++ X2)))) →
    ∃ X, compGo t c el env (l.map dd) M = .ok ((l.filter p).map q) (M ++ X)
  | [], M, _ => ⟨[], by rw [List.append_nil]; rfl⟩
  | d :: r, M, h => by
    obtain ⟨e, X1, h1, h2, h3⟩ := h d List.mem_cons_self []
    rw [List.append_nil, List.nil_append] at h2
    rw [List.nil_append] at h3
    have go : ∀ Y, ∃ X, compGo t c el env (r.map dd) (M ++ Y) = .ok ((r.filter p).map q) (M ++ Y ++ X) := fun Y => comp_extA (l := r) (M := M ++ Y) fun d hd X => by
      obtain ⟨e, X1, g1, g2, g3⟩ := h d (List.mem_cons_of_mem _ hd) (Y ++ X)
      refine ⟨e, X1, g1, by simpa [List.append_assoc] using g2, fun hp => ?_⟩
      obtain ⟨X2, g4⟩ := g3 hp
      exact ⟨X2, by simpa [List.append_assoc] using g4⟩
    cases hp : p d with
    | false =>
      obtain ⟨X, e5⟩ := go X1
      refine ⟨X1 ++ X, ?_⟩
      rw [List.map_cons]
      unfold compGo
      rw [h1]
      dsimp only
      rw [h2]
      simp only [calm_ok, bind_ok, hp, Bool.false_eq_true, if_false, List.filter_cons]
      rw [e5, List.append_assoc]
    | true =>
      obtain ⟨X2, h4⟩ := h3 hp
      obtain ⟨X, e5⟩ := go (X1 ++ X2)
      refine ⟨X1 ++ X2 ++ X, ?_⟩
      rw [List.map_cons]
      unfold compGo
      rw [h1]
      dsimp only
      rw [h2]
      simp only [calm_ok, bind_ok, hp, if_true, List.filter_cons, List.map_cons]
      rw [h4]
      simp only [calm_ok, bind_ok]
      rw [e5]
      simp only [bind_ok, List.append_assoc]
/-- .. that leaves nothing behind -/
theorem comp_pureA {α : Type} {dd : α → D} {t : Tg} {c : En → Sto → Res Bool} {el : En → Sto → Res D} {env : En} {p : α → Bool} {q : α → D} {M : Sto} : ∀ {l : List α}, (∀ a ∈ l, ∃ e, asgD t (dd a) env = some e ∧ c e M = .ok (p a) M ∧ (p a = true → el e M = .ok (q a) M)) →
    compGo t c el env (l.map dd) M = .ok ((l.filter p).map q) M
  | [], _ => rfl
  | d :: r, h => by
    obtain ⟨e, h1, h2, h3⟩ := h d List.mem_cons_self
    have ih := comp_pureA (l := r) (fun d hd => h d (List.mem_cons_of_mem _ hd))
    rw [List.map_cons]
    unfold compGo
    rw [h1]
    dsimp only
    rw [h2]
    cases hp : p d with
    | false => simp only [calm_ok, bind_ok, Bool.false_eq_true, if_false, List.filter_cons, hp, ih]
    | true => simp only [calm_ok, bind_ok, if_true, List.filter_cons, hp, List.map_cons, h3 hp, ih]
theorem nm_fit : ∀ x ∈ NL, (x.cps.all fun c => decide (c < 0x110000)) = true := by decide +kernel
theorem str_fit {x : Str} {k : Nat} (h : (x.cps.all fun c => decide (c < 0x110000)) = true) : D.fit k (.str x) = true := by cases k <;> exact h
theorem int_fit {i : Int} {k : Nat} : D.fit k (.int i) = true := by cases k <;> rfl
theorem prs_fit {l : List Str} {g : Str → Int} {k : Nat} (h : ∀ x ∈ l, x ∈ NL) : D.fits (k + 1) (prsD l g) = true := by
  induction l with
  | nil => rfl
  | cons x r ih =>
    show (D.fit (k + 1) (.tup [.str x, .int (g x)]) && D.fits (k + 1) (prsD r g)) = true
    rw [ih fun y hy => h y (List.mem_cons_of_mem _ hy)]
    show ((D.fit k (.str x) && (D.fit k (.int (g x)) && true)) && true) = true
    rw [str_fit (nm_fit x (h x List.mem_cons_self)), int_fit]; rfl
theorem fm_fit {c : Int} {f : Str → Int} {k : Nat} : D.fit (k + 3) (fmD c f) = true := by
  show (D.fit (k + 2) (.int c) && (D.fits (k + 1) (prsD (rowL f) f) && true)) = true
  rw [prs_fit fun x hx => (row_sub f).subset hx]; rfl
theorem fits_of {k : Nat} : ∀ {l : List D}, (∀ d ∈ l, D.fit k d = true) → D.fits k l = true
  | [], _ => by rw [D.fits]
  | x :: r, h => by
    rw [D.fits, h x List.mem_cons_self, fits_of fun d hd => h d (List.mem_cons_of_mem _ hd)]; rfl
theorem fits_all {k : Nat} : ∀ {l : List D}, D.fits k l = true → ∀ d ∈ l, D.fit k d = true
  | x :: r, h, d, hd => by
    rw [D.fits, Bool.and_eq_true] at h
    rcases List.mem_cons.mp hd with rfl | hd
    · exact h.1
    · exact fits_all h.2 d hd
theorem eq_loc {M : Sto} {a : Nat} {xs : List D} (h : M[a]? = some (.lst xs)) (hf : D.fits 63 xs = true) : eqD M (.loc a) (.lst []) = some xs.isEmpty := by
  have h1 : D.seen M (.loc a) = .lst xs := by simp only [D.seen, h]
  unfold eqD
  rw [if_neg (by simp [D.scal, D.flat]), h1]
  have h2 : (D.fit 64 (.lst xs) && D.fit 64 (D.seen M (.lst []))) = true := by
    have e1 : D.fit 64 (.lst xs) = true := hf
    rw [e1]; rfl
  dsimp only
  rw [if_pos h2]
  cases xs <;> rfl
section
variable {Rs : Sto} {cells : List Int} {b : Int} {u v w : MO}
theorem dm_at1 : (dealM (Rs ++ [u, v]) cells b)[Rs.length + 2]? = some u := by
  show (_ :: _ :: (Rs ++ [u, v]))[Rs.length + 2]? = _
  simp
theorem dm_at2 : (dealM (Rs ++ [u, v]) cells b)[Rs.length + 3]? = some v := by
  show (_ :: _ :: (Rs ++ [u, v]))[Rs.length + 1 + 2]? = _
  simp
theorem dm_set1 : (dealM (Rs ++ [u, v]) cells b).set (Rs.length + 2) w = dealM (Rs ++ [w, v]) cells b := by
  show (_ :: _ :: (Rs ++ [u, v])).set (Rs.length + 2) w = _ :: _ :: (Rs ++ [w, v])
  simp
theorem dm_set2 : (dealM (Rs ++ [u, v]) cells b).set (Rs.length + 3) w = dealM (Rs ++ [u, w]) cells b := by
  show (_ :: _ :: (Rs ++ [u, v])).set (Rs.length + 1 + 2) w = _ :: _ :: (Rs ++ [u, w])
  simp
end
theorem Deal.put1 {Rs : Sto} {u v w : MO} {M : Sto} (d : Deal (Rs ++ [u, v]) M) : M[Rs.length + 2]? = some u ∧ M[Rs.length + 3]? = some v ∧ Deal (Rs ++ [w, v]) (M.set (Rs.length + 2) w) ∧ Deal (Rs ++ [u, w]) (M.set (Rs.length + 3) w) := by
  obtain ⟨cells, b, rfl, h⟩ := d.is
  exact ⟨dm_at1, dm_at2, ⟨cells, b, dm_set1, h⟩, ⟨cells, b, dm_set2, h⟩⟩
theorem Deal.put0 {Rs : Sto} {u w : MO} {M : Sto} (d : Deal (Rs ++ [u]) M) : M[Rs.length + 2]? = some u ∧ Deal (Rs ++ [w]) (M.set (Rs.length + 2) w) := by
  obtain ⟨cells, b, rfl, h⟩ := d.is
  constructor
  · show (_ :: _ :: (Rs ++ [u]))[Rs.length + 2]? = _
    simp
  · refine ⟨cells, b, ?_, h⟩
    show (_ :: _ :: (Rs ++ [u])).set (Rs.length + 2) w = _ :: _ :: (Rs ++ [w])
    simp
theorem Deal.more {Rs : Sto} {M : Sto} (d : Deal Rs M) (X : Sto) : Deal (Rs ++ X) (M ++ X) := by
  obtain ⟨cells, b, rfl, h⟩ := d.is
  exact ⟨cells, b, rfl, h⟩
theorem Deal.len {Rs : Sto} {M : Sto} (d : Deal Rs M) : M.length = Rs.length + 2 := by
  obtain ⟨cells, b, rfl, _⟩ := d.is
  simp [dealM]
theorem erase_perm {α : Type} : ∀ {l : List α} {k : Nat} (h : k < l.length), (l[k] :: l.eraseIdx k).Perm l
  | x :: r, 0, _ => .refl _
  | x :: r, k + 1, h => by
    have ih := erase_perm (l := r) (k := k) (by simpa using h)
    exact (List.Perm.swap x _ _).trans (ih.cons x)
theorem mixed_loop {Rs : Sto} {n : Nat} {p1 : Option D} {P : D → Prop} (hP : ∀ d, P d → D.fit 63 d = true) : ∀ (k : Nat) (left found : List D) (M : Sto), left.length = k → k + found.length ≤ 1000 → (∀ d ∈ left, P d) → (∀ d ∈ found, P d) → Deal (Rs ++ [.lst left, .lst found]) M →
    ∃ ys M', whlN (fun env M => evE (callN T (n + 1)) f_law_mixed_w0 env M) (fun env M => evSs (callN T (n + 1)) f_law_mixed_b0 env M) (k + 1) [some (.loc 1), p1, some (.loc (Rs.length + 2)), some (.loc (Rs.length + 3))] M = .ok (.nx [some (.loc 1), p1, some (.loc (Rs.length + 2)), some (.loc (Rs.length + 3))]) M' ∧ Deal (Rs ++ [.lst [], .lst ys]) M' ∧ (∀ d ∈ ys, P d) ∧ ys.length = k + found.length ∧ ys.Perm (left ++ found)
  | 0, left, found, M, hk, hl, h1, h2, d => by
    obtain rfl := List.eq_nil_of_length_eq_zero hk
    obtain ⟨a1, a2, _, _⟩ := d.put1 (w := .dead)
    refine ⟨found, M, ?_, d, h2, by simp, List.Perm.refl _⟩
    have heq := eq_loc a1 (by rfl)
    unfold whlN
    simp at heq
    simp [f_law_mixed_w0, heq]
  | k + 1, left, found, M, hk, hl, h1, h2, d => by
    obtain ⟨a1, a2, _, _⟩ := d.put1 (w := .dead)
    have heq := eq_loc a1 (fits_of fun d hd => hP d (h1 d hd))
    have he : left.isEmpty = false := by
      cases left with
      | nil => cases hk
      | cons _ _ => rfl
    rw [he] at heq
    have hdv : divOk (left.length : Int) = true := by
      refine decide_eq_true ⟨by omega, ?_⟩
      have : (left.length : Int).natAbs = left.length := by simp
      rw [this]
      have h3 : left.length.log2 ≤ left.length := Nat.log2_le_self _
      omega
    obtain ⟨r, M1, e1, d1, r0, r1⟩ := law_any_ok (n := n) (bound := (left.length : Int)) d (by omega) hdv
    obtain ⟨b1, b2, _, _⟩ := d1.put1 (w := .dead)
    have hr : r.toNat < left.length := by omega
    have hrr : r = ((r.toNat : Nat) : Int) := by omega
    have g1 := md_popAt (k := r.toNat) b1 (List.getElem?_eq_getElem hr) (by omega)
    rw [← hrr] at g1
    obtain ⟨_, _, d2, _⟩ := d1.put1 (w := .lst (left.eraseIdx r.toNat))
    obtain ⟨c1, c2, _, d3⟩ := d2.put1 (w := .lst (found ++ [left[r.toNat]]))
    have g2 := md_append (d := left[r.toNat]) c2 (by omega)
    have hlen : (left.eraseIdx r.toNat).length = k := by rw [List.length_eraseIdx_of_lt hr]; omega
    have hsub : ∀ d ∈ left.eraseIdx r.toNat, P d := fun d hd => h1 d ((List.eraseIdx_sublist _ _).subset hd)
    obtain ⟨ys, M', f1, f2, f3, f4, f5⟩ := mixed_loop (n := n) (p1 := p1) hP k (left.eraseIdx r.toNat) (found ++ [left[r.toNat]]) _ hlen (by rw [List.length_append]; simp; omega) hsub (fun d hd => by
      rcases List.mem_append.mp hd with hd | hd
      · exact h2 d hd
      · rw [List.mem_singleton] at hd; subst hd; exact h1 _ (List.getElem_mem hr)) d3
    have f6 : ys.Perm (left ++ found) := by
      refine f5.trans ?_
      rw [← List.append_assoc]
      refine (List.perm_append_comm).trans ?_
      rw [← List.append_assoc]
      exact List.Perm.append_right _ (erase_perm hr)
    refine ⟨ys, M', ?_, f2, f3, by rw [f4, List.length_append]; simp; omega, f6⟩
    have hc : evE (callN T (n + 1)) f_law_mixed_w0 [some (.loc 1), p1, some (.loc (Rs.length + 2)), some (.loc (Rs.length + 3))] M = .ok (.bl true) M := by
      simp [f_law_mixed_w0, heq]
    have hln : biD .len false [.loc (Rs.length + 2)] M = .ok (.int left.length) M := by
      show (match M[Rs.length + 2]? with
        | some (.lst xs) => Res.ok (D.int xs.length) M
        | some (.dct kvs) => Res.ok (D.int kvs.length) M
        | _ => .fail) = _
      rw [a1]
    have hb : evSs (callN T (n + 1)) f_law_mixed_b0 [some (.loc 1), p1, some (.loc (Rs.length + 2)), some (.loc (Rs.length + 3))] M = .ok (.nx [some (.loc 1), p1, some (.loc (Rs.length + 2)), some (.loc (Rs.length + 3))]) ((M1.set (Rs.length + 2) (.lst (left.eraseIdx r.toNat))).set (Rs.length + 3) (.lst (found ++ [left[r.toNat]]))) := by
      simp [f_law_mixed_b0, kd_append a2, kd_popAt a1, hln, e1, g1, g2]
    unfold whlN
    rw [hc]
    dsimp only [out_ok]
    rw [hb]
    exact f1
theorem law_mixed_ok {Rs : Sto} {n : Nat} {M : Sto} {xs : List D} {P : D → Prop} (hP : ∀ d, P d → D.fit 63 d = true) (hl : xs.length ≤ 1000) (hx : ∀ d ∈ xs, P d) (d : Deal Rs M) :
    ∃ ys M', callN T (n + 2) "_law_mixed" [.loc 1, .lst xs] M = .ok (.lst ys) M' ∧ Deal (Rs ++ [.lst [], .dead]) M' ∧ (∀ d ∈ ys, P d) ∧ ys.length = xs.length ∧ ys.Perm xs := by
  have hM : M.length = Rs.length + 2 := by
    obtain ⟨cells, b, rfl, _⟩ := d.is
    simp [dealM]
  have d1 : Deal (Rs ++ [.lst xs, .lst []]) (M ++ [.lst xs, .lst []]) := by
    obtain ⟨cells, b, rfl, h⟩ := d.is
    exact ⟨cells, b, rfl, h⟩
  obtain ⟨ys, M', e, d2, h1, h2, h3⟩ := mixed_loop (n := n) (p1 := some (.lst xs)) hP xs.length xs [] _ rfl (by simpa using hl) hx (fun _ h => nomatch h) d1
  obtain ⟨a1, a2, _, d3⟩ := d2.put1 (w := .dead)
  have e4 := whl_go (n := xs.length + 1) (c := fun env M => evE (callN T (n + 1)) f_law_mixed_w0 env M) (b := fun env M => evSs (callN T (n + 1)) f_law_mixed_b0 env M) (by rw [e]; exact fun h => by cases h)
  rw [e] at e4
  have g := frz_at a2
  refine ⟨ys, M'.set (Rs.length + 3) .dead, ?_, d3, h1, by simpa using h2, by simpa using h3⟩
  refine free_call (fn := f_law_mixed) (by kernel_rfl) rfl rfl ?_
  simp [f_law_mixed, hM]
  rw [e4]
  simp [g]
end K21T
end Z


/-! K03C: forms and worths, the plain law. -/
namespace Z
namespace K21T
open PySem L2
def sumN (h : Str → Int) : Int := (NL.map h).sum
theorem sum_add (h k : Str → Int) : ∀ l : List Str, (l.map fun n => h n + k n).sum = (l.map h).sum + (l.map k).sum
  | [] => rfl
  | n :: r => by
    rw [List.map_cons, List.map_cons, List.map_cons, List.sum_cons, List.sum_cons, List.sum_cons, sum_add h k r]
    omega
theorem sum_mul (h : Str → Int) (a : Int) : ∀ l : List Str, (l.map fun n => h n * a).sum = (l.map h).sum * a
  | [] => by simp
  | n :: r => by
    rw [List.map_cons, List.map_cons, List.sum_cons, List.sum_cons, sum_mul h a r, Int.add_mul]
theorem sum_congr {h k : Str → Int} : ∀ {l : List Str}, (∀ n ∈ l, h n = k n) → (l.map h).sum = (l.map k).sum := fun {l} e => by
  rw [List.map_congr_left e]
theorem sum_at {f : Str → Int} {G : Str → Int} {V : Int} {x : Str} : ∀ {l : List Str}, l.Nodup → (l.map fun n => f n * (if n = x then V else G n)).sum = (l.map fun n => (if n = x then 0 else f n) * G n).sum + (if x ∈ l then f x * V else 0)
  | [], _ => rfl
  | n :: r, nd => by
    obtain ⟨n1, n2⟩ := List.nodup_cons.mp nd
    rw [List.map_cons, List.map_cons, List.sum_cons, List.sum_cons, sum_at n2]
    by_cases e : n = x
    · subst e
      simp [n1]
      omega
    · have e' : x ≠ n := fun h => e h.symm
      simp [e, e']
      omega
/-- a form put for a name, and its worth -/
theorem wv_put {c c' : Int} {f f' G : Str → Int} {x : Str} (hx : x ∈ NL) : wv (c + c' * f x) (putF f f' x) G = wv c f (fun n => if n = x then wv c' f' G else G n) := by
  unfold wv
  rw [sum_at NL_nd, if_pos hx]
  have e1 : (NL.map fun n => putF f f' x n * G n).sum = (NL.map fun n => (if n = x then 0 else f n) * G n).sum + (NL.map fun n => f' n * G n).sum * f x := by
    rw [← sum_mul, ← sum_add]
    apply sum_congr
    intro n _
    unfold putF
    rw [Int.add_mul, Int.mul_assoc, Int.mul_assoc, Int.mul_comm (f x)]
  rw [e1, Int.mul_add, Int.mul_comm (f x) c', Int.mul_comm (f x)]
  omega
theorem wv_congr {c : Int} {f G G' : Str → Int} (h : ∀ n ∈ NL, G n = G' n) : wv c f G = wv c f G' := by
  unfold wv
  rw [sum_congr fun n hn => by rw [h n hn]]
/-! ### bounds -/
theorem abs_mul {i j : Int} {a b : Nat} (h : i.natAbs < 2 ^ a) (h' : j.natAbs < 2 ^ b) : (i * j).natAbs < 2 ^ (a + b) := by
  rw [Int.natAbs_mul, Nat.pow_add]
  exact Nat.mul_lt_mul'' h h'
theorem pow_le {a b : Nat} (h : a ≤ b) : 2 ^ a ≤ 2 ^ b := Nat.pow_le_pow_right (by decide) h
theorem up {i : Int} {a b : Nat} (h : i.natAbs < 2 ^ a) (hl : a ≤ b) : i.natAbs < 2 ^ b := Nat.lt_of_lt_of_le h (pow_le hl)
theorem abs_add {i j : Int} {a : Nat} (h : i.natAbs < 2 ^ a) (h' : j.natAbs < 2 ^ a) : (i + j).natAbs < 2 ^ (a + 1) := by
  have := Int.natAbs_add_le i j
  rw [Nat.pow_succ]
  omega
theorem abs_sub {i j : Int} {a : Nat} (h : i.natAbs < 2 ^ a) (h' : j.natAbs < 2 ^ a) : (i - j).natAbs < 2 ^ (a + 1) := by
  have := Int.natAbs_sub_le i j
  rw [Nat.pow_succ]
  omega
theorem abs_sum {h : Str → Int} {a : Nat} : ∀ {l : List Str}, (∀ n ∈ l, (h n).natAbs < 2 ^ a) → (l.map h).sum.natAbs ≤ l.length * 2 ^ a
  | [], _ => by simp
  | n :: r, e => by
    rw [List.map_cons, List.sum_cons, List.length_cons, Nat.add_mul, Nat.one_mul]
    have h1 := e n List.mem_cons_self
    have h2 := abs_sum (l := r) fun m hm => e m (List.mem_cons_of_mem _ hm)
    have h3 := Int.natAbs_add_le (h n) (r.map h).sum
    omega
theorem wv_small {c : Int} {f G : Str → Int} {b k : Nat} (s : Sm b c f) (hG : ∀ n ∈ NL, (G n).natAbs < 2 ^ k) : (wv c f G).natAbs < 2 ^ (b + k + 5) := by
  have h1 := abs_sum (h := fun n => f n * G n) (a := b + k) (l := NL) fun n hn => abs_mul (s.f n hn) (hG n hn)
  have h2 : NL.length = 7 := rfl
  have h3 := Int.natAbs_add_le c (NL.map fun n => f n * G n).sum
  have h4 : c.natAbs < 2 ^ (b + k) := up s.c (by omega)
  unfold wv
  rw [Nat.pow_add]
  rw [h2] at h1
  show _ < 2 ^ (b + k) * 32
  omega
theorem Sm.up {b b' : Nat} {c : Int} {f : Str → Int} (s : Sm b c f) (h : b ≤ b') : Sm b' c f := ⟨K21T.up s.c h, fun n hn => K21T.up (s.f n hn) h⟩
theorem Sm.add {b : Nat} {c c' : Int} {f f' : Str → Int} (s : Sm b c f) (s' : Sm b c' f') : Sm (b + 1) (c + c') (fun n => f n + f' n) := ⟨abs_add s.c s'.c, fun n hn => abs_add (s.f n hn) (s'.f n hn)⟩
theorem Sm.mul {b k : Nat} {c a : Int} {f : Str → Int} (s : Sm b c f) (h : a.natAbs < 2 ^ k) : Sm (b + k) (c * a) (fun n => f n * a) := ⟨abs_mul s.c h, fun n hn => abs_mul (s.f n hn) h⟩
theorem Sm.put {b b' : Nat} {c c' : Int} {f f' : Str → Int} {x : Str} (hx : x ∈ NL) (s : Sm b c f) (s' : Sm b' c' f') : Sm (b' + b + 1) (c + c' * f x) (putF f f' x) := by
  refine ⟨abs_add (K21T.up s.c (by omega)) (abs_mul s'.c (s.f x hx)), fun n hn => ?_⟩
  unfold putF
  refine abs_add ?_ (abs_mul (s'.f n hn) (s.f x hx))
  split
  · exact Nat.two_pow_pos _
  · exact K21T.up (s.f n hn) (by omega)
/-! ### steps -/
end K21T
end Z


/-! K21S: the law's own sums, reckoned in one def; names and forms drawn out of some. -/
namespace Z
namespace K21T
open PySem L2
theorem stepS {C : Calls} {s : S} {r : Ss} {env env1 : En} {M M1 : Sto} (h : evS C s env M = .ok (.nx env1) M1) : evSs C (.cons s r) env M = evSs C r env1 M1 := by
  rw [es_cons, h]
  rfl
theorem stepR {C : Calls} {e : E} {r : Ss} {env : En} {M M1 : Sto} {d : D} (h : evE C e env M = .ok d M1) : evSs C (.cons (.ret (.som e)) r) env M = .ok (.ret d) M1 := by
  rw [es_cons, es_ret, h]
  rfl
theorem app_last {M : Sto} {l : List D} {d : D} (h : l.length ≤ 1000000) : mthD .append (.loc M.length) [d] (M ++ [.lst l]) = .ok .non (M ++ [.lst (l ++ [d])]) := by
  have e := md_append (d := d) (at_last (M := M) (o := .lst l)) h
  rw [set_last] at e
  exact e
theorem law_b1 : f_law_sum_b1 = f_sum_of_b1 := rfl
theorem row_comp {C : Calls} {c0 k0 : E} (hk : k0 = .cmp .ne (.idx (.var 2) (.var 5)) (.cst (.int 0))) (hc : c0 = .tup (.cons (.var 5) (.cons (.idx (.var 2) (.var 5)) .nil))) {h : Str → Int} {kvs : List (Key × D)} {M : Sto} {a : Nat} {x0 x1 x3 x4 x5 x6 : Option D} (hM : M[a]? = some (.dct kvs)) (d : DI kvs h) {ks : List Str} (h1 : kvs.map (·.1) = ks.map Sum.inr) (h2 : ks.Nodup) (h3 : ∀ k ∈ ks, k ∈ NL) (h4 : ∀ n ∈ NL, h n ≠ 0 → n ∈ ks) :
    compGo (.n 5) (fun env M => (evE C k0 env M).bind fun x M1 => ofO (asB x) M1) (fun env M => evE C c0 env M) [x0, x1, some (.loc a), x3, x4, x5, x6] ((sortStr ks).map D.str) M = .ok (prsD (rowL h) h) M := by
  subst hk hc
  rw [comp_pure (p := fun d => (match d with | .str n => h n != 0 | _ => false)) (q := fun d => (match d with | .str n => .tup [.str n, .int (h n)] | _ => .non)) fun d' hd => ?_]
  · rw [List.filter_map, List.map_map]
    show Res.ok (((sortStr ks).filter fun n => h n != 0).map (fun n => D.tup [.str n, .int (h n)])) M = _
    rw [sort_pick h2 h3 fun n hn hp => h4 n hn (by simpa using hp)]
    rfl
  · obtain ⟨x, hx, rfl⟩ := List.mem_map.mp hd
    have hxk : x ∈ ks := (sortStr_perm ks).mem_iff.mp hx
    have hi := ix_dct (x := x) hM
    rcases d.get (h3 x hxk) with e | ⟨e, _⟩
    · rw [e] at hi
      refine ⟨_, rfl, ?_, fun _ => ?_⟩
      · simp [hi]
        by_cases h0 : h x = 0 <;> simp [h0]
      · simp [hi]
    · have := find_key.mp e
      rw [h1] at this
      exact absurd (List.mem_map_of_mem hxk) this
theorem law_sum_ok {n : Nat} {ts : List Term} (h : ∀ t ∈ ts, t.ok) : Calc (callN T (n + 1)) "_law_sum" [.lst (ts.map Term.d)] (fmD (sumC ts) (sumF ts)) := by
  intro M
  obtain ⟨x3, x4, x5, x6, kvs, e1, e2⟩ := outer_ok (C := callN T n) (P := M) (p0 := some (.lst (ts.map Term.d))) ts 0 [] (fun _ => 0) none none none none h DI.nil
  refine own_callM (fn := f_law_sum) (by kernel_rfl) rfl rfl fm_pure ⟨[.dct kvs], ?_⟩
  simp at e1
  have dd : DI kvs (sumF ts) := e2.congr fun m _ => by simp
  obtain ⟨ks, h1, h2, h3, h4, h5⟩ := dd.keys
  have hM := at_last (M := M) (o := .dct kvs)
  have k1 : biD .list false [.loc M.length] (M ++ [.dct kvs]) = .ok (.lst (ks.map .str)) (M ++ [.dct kvs]) := by
    rw [bd_list_dct hM, newList_f]
    have := congrArg (List.map keyD) h1
    rw [List.map_map, List.map_map] at this
    rw [show (kvs.map fun kv => keyD kv.1) = ks.map D.str from this]
  have k2 := bd_sorted (m := false) (M := M ++ [.dct kvs]) (bs := ks) (by omega)
  have k3 := row_comp (C := callN T n) (c0 := f_law_sum_c0) (k0 := f_law_sum_k0) rfl rfl (x0 := some (.lst (ts.map Term.d))) (x1 := some (.int (sumC ts))) (x3 := x3) (x4 := x4) (x5 := none) (x6 := x6) hM dd h1 h2 h3 h4
  simp [f_law_sum, law_b1]
  rw [e1]
  simp [k1, k2]
  rw [k3]
  simp [fmD]
theorem const_d {c : Int} : D.tup [.int c, .tup []] = fmD c fun _ => 0 := by
  have e : rowL (fun _ => (0 : Int)) = [] := List.filter_eq_nil_iff.mpr fun n _ => by simp
  unfold fmD prsD
  rw [e]; rfl
theorem filter_one : ∀ {l : List Str} {x : Str}, l.Nodup → x ∈ l → l.filter (fun m => decide (m = x)) = [x]
  | y :: r, x, nd, h => by
    obtain ⟨n1, n2⟩ := List.nodup_cons.mp nd
    rw [List.filter_cons]
    by_cases e : y = x
    · subst e
      rw [if_pos (by simp)]
      rw [List.filter_eq_nil_iff.mpr fun m hm => by simp; exact fun z => n1 (z ▸ hm)]
    · rw [if_neg (by simp [e])]
      rcases List.mem_cons.mp h with h | h
      · exact absurd h.symm e
      · exact filter_one n2 h
theorem unit_d {c a : Int} {x : Str} (hx : x ∈ NL) (ha : a ≠ 0) : D.tup [.int c, .tup [.tup [.str x, .int a]]] = fmD c fun m => if m = x then a else 0 := by
  have e : rowL (fun m => if m = x then a else 0) = [x] := by
    rw [← filter_one NL_nd hx]
    unfold rowL
    apply List.filter_congr
    intro m _
    by_cases h : m = x <;> simp [h, ha]
  unfold fmD prsD
  rw [e]
  simp
/-- names in a row: drawn out of some -/
def nmD (l : List Str) : D := .lst (l.map .str)
theorem str_perm_list {l : List Str} : ∀ {ys : List D}, (∀ d ∈ ys, ∃ x ∈ l, d = D.str x) → ∃ zs : List Str, ys = zs.map .str ∧ ∀ z ∈ zs, z ∈ l
  | [], _ => ⟨[], rfl, fun _ h => nomatch h⟩
  | y :: r, h => by
    obtain ⟨x, hx, rfl⟩ := h y List.mem_cons_self
    obtain ⟨zs, e, hz⟩ := str_perm_list (ys := r) fun d hd => h d (List.mem_cons_of_mem _ hd)
    refine ⟨x :: zs, by rw [e]; rfl, fun z hz2 => ?_⟩
    rcases List.mem_cons.mp hz2 with rfl | h3
    · exact hx
    · exact hz z h3
theorem str_inj_map : ∀ {xs ys : List Str}, (xs.map D.str) = ys.map D.str → xs = ys
  | [], [], _ => rfl
  | [], _ :: _, h => by cases h
  | _ :: _, [], h => by cases h
  | x :: xs, y :: ys, h => by
    rw [List.map_cons, List.map_cons, List.cons.injEq] at h
    obtain ⟨h1, h2⟩ := h
    cases h1
    rw [str_inj_map h2]
theorem perm_strs {zs l : List Str} (h : (zs.map D.str).Perm (l.map D.str)) : zs.Perm l := by
  have e := h.map fun d => (match d with | .str s => s | _ => ("" : Str))
  rw [List.map_map, List.map_map] at e
  have g : ∀ l : List Str, l.map ((fun d => (match d with | .str s => s | _ => ("" : Str))) ∘ D.str) = l := fun l => by
    induction l with
    | nil => rfl
    | cons x r ih => rw [List.map_cons, ih]; rfl
  rw [g, g] at e
  exact e
/-- names in another order -/
theorem mixed_names {Rs : Sto} {n : Nat} {M : Sto} {l : List Str} (hl : l.length ≤ 1000) (hN : ∀ x ∈ l, x ∈ NL) (d : Deal Rs M) :
    ∃ (zs : List Str) (X : Sto) (M' : Sto), callN T (n + 2) "_law_mixed" [.loc 1, .lst (l.map .str)] M = .ok (.lst (zs.map .str)) M' ∧ Deal (Rs ++ X) M' ∧ zs.Perm l := by
  obtain ⟨ys, M', e1, e2, e3, e4, e5⟩ := law_mixed_ok (n := n) (xs := l.map .str) (P := fun d => ∃ x ∈ l, d = D.str x) (fun d ⟨x, hx, e⟩ => by subst e; exact str_fit (nm_fit x (hN x hx))) (by rw [List.length_map]; exact hl) (fun d hd => by
    obtain ⟨x, hx, rfl⟩ := List.mem_map.mp hd
    exact ⟨x, hx, rfl⟩) d
  obtain ⟨zs, rfl, _⟩ := str_perm_list e3
  exact ⟨zs, _, M', e1, e2, perm_strs e5⟩
/-- the first of them, in order -/
theorem sorted_some {l zs : List Str} (hp : zs.Perm l) (nd : l.Nodup) (hN : ∀ x ∈ l, x ∈ NL) (k : Nat) : sortStr (zs.take k) = NL.filter fun n => decide (n ∈ zs.take k) := by
  have nd2 : (zs.take k).Nodup := (hp.nodup_iff.mpr nd).sublist (List.take_sublist _ _)
  have hm : ∀ x ∈ zs.take k, x ∈ NL := fun x hx => hN x (hp.mem_iff.mp ((List.take_sublist _ _).subset hx))
  have e := sort_pick (ks := zs.take k) (p := fun n => decide (n ∈ zs.take k)) nd2 hm fun n _ hp => of_decide_eq_true hp
  have e2 : (sortStr (zs.take k)).filter (fun n => decide (n ∈ zs.take k)) = sortStr (zs.take k) := List.filter_eq_self.mpr fun n hn => decide_eq_true ((sortStr_perm _).mem_iff.mp hn)
  rw [e2] at e
  exact e
/-- terms that are small sum up to what is small -/
theorem abs_list {α : Type} {h : α → Int} {a : Nat} : ∀ {l : List α}, (∀ n ∈ l, (h n).natAbs < 2 ^ a) → (l.map h).sum.natAbs ≤ l.length * 2 ^ a
  | [], _ => by simp
  | x :: r, hh => by
    have h1 := hh x List.mem_cons_self
    have h2 := abs_list (l := r) fun n hn => hh n (List.mem_cons_of_mem _ hn)
    rw [List.map_cons, List.sum_cons, List.length_cons, Nat.add_mul, Nat.one_mul]
    omega
theorem sum_sm {ts : List Term} {k j : Nat} (hc : ∀ t ∈ ts, (t.c * t.a).natAbs < 2 ^ k) (hf : ∀ t ∈ ts, ∀ n ∈ NL, (t.f n * t.a).natAbs < 2 ^ k) (hl : ts.length < 2 ^ j) : Sm (k + j) (sumC ts) (sumF ts) := by
  have hp : 0 < 2 ^ k := Nat.two_pow_pos _
  have e : ts.length * 2 ^ k < 2 ^ (k + j) := by
    rw [Nat.pow_add, Nat.mul_comm]
    exact Nat.mul_lt_mul_of_pos_left hl hp
  exact ⟨Nat.lt_of_le_of_lt (abs_list (h := fun t : Term => t.c * t.a) hc) e, fun n hn => Nat.lt_of_le_of_lt (abs_list (h := fun t : Term => t.f n * t.a) fun t ht => hf t ht n hn) e⟩
/-- terms: a number, then units with factors -/
theorem units_of {b : Nat} : ∀ {l : List Str} {ys : List D}, (∀ x ∈ l, x ∈ NL) → F2 (fun d y => ∃ x v, d = D.str x ∧ y = D.tup [.tup [.int 0, .tup [.tup [.str x, .int 1]]], .int v] ∧ v.natAbs < 2 ^ b) (l.map .str) ys →
    ∃ ts : List Term, ys = ts.map Term.d ∧ ts.length = l.length ∧ (∀ t ∈ ts, (t.c * t.a).natAbs < 2 ^ b) ∧ (∀ t ∈ ts, ∀ n ∈ NL, (t.f n * t.a).natAbs < 2 ^ b) ∧ ∀ t ∈ ts, t.a.natAbs < 2 ^ b ∧ t.c.natAbs < 2 ^ 1 ∧ ∀ n ∈ NL, (t.f n).natAbs < 2 ^ 1
  | [], ys, _, h => by cases h; exact ⟨[], rfl, rfl, (fun _ h => nomatch h), (fun _ h => nomatch h), fun _ h => nomatch h⟩
  | x :: r, ys, hN, h => by
    rw [List.map_cons] at h
    cases h with
    | cons q t =>
      obtain ⟨z, v, e1, e2, e3⟩ := q
      cases e1
      obtain ⟨ts, g1, g2, g3, g4, g5⟩ := units_of (fun x hx => hN x (List.mem_cons_of_mem _ hx)) t
      have hp : 0 < 2 ^ b := Nat.two_pow_pos _
      refine ⟨⟨0, fun m => if m = x then 1 else 0, v⟩ :: ts, by rw [e2, g1, unit_d (hN x List.mem_cons_self) (by decide)]; rfl, by simp [g2], fun t ht => ?_, fun t ht m hm => ?_, fun t ht => ?_⟩
      · rcases List.mem_cons.mp ht with rfl | ht
        · simp [hp]
        · exact g3 t ht
      · rcases List.mem_cons.mp ht with rfl | ht
        · by_cases e : m = x <;> simp [e, e3, hp]
        · exact g4 t ht m hm
      · rcases List.mem_cons.mp ht with rfl | ht
        · exact ⟨e3, Nat.two_pow_pos _, fun m _ => by by_cases e : m = x <;> simp [e]⟩
        · exact g5 t ht
theorem term_ok {b : Nat} {t : Term} (hb : b ≤ 90000) (h : t.a.natAbs < 2 ^ b ∧ t.c.natAbs < 2 ^ 1 ∧ ∀ n ∈ NL, (t.f n).natAbs < 2 ^ 1) : t.ok := ⟨mul1 h.2.1 (by decide) h.1 hb, fun n hn => mul1 (h.2.2 n hn) (by decide) h.1 hb⟩
/-- a number and units, summed up -/
theorem units_sum {n b k : Nat} {i : Int} {ts : List Term} (hi : i.natAbs < 2 ^ b) (hb : b ≤ 90000) (hl : ts.length + 1 < 2 ^ k) (h1 : ∀ t ∈ ts, (t.c * t.a).natAbs < 2 ^ b) (h2 : ∀ t ∈ ts, ∀ n ∈ NL, (t.f n * t.a).natAbs < 2 ^ b) (h3 : ∀ t ∈ ts, t.a.natAbs < 2 ^ b ∧ t.c.natAbs < 2 ^ 1 ∧ ∀ n ∈ NL, (t.f n).natAbs < 2 ^ 1) :
    ∃ c f, Calc (callN T (n + 1)) "_law_sum" [.lst (.tup [.tup [.int i, .tup []], .int 1] :: ts.map Term.d)] (fmD c f) ∧ Sm (b + k) c f := by
  have hp : 0 < 2 ^ b := Nat.two_pow_pos _
  refine ⟨sumC (⟨i, fun _ => 0, 1⟩ :: ts), sumF (⟨i, fun _ => 0, 1⟩ :: ts), ?_, sum_sm (fun t ht => ?_) (fun t ht m hm => ?_) (by simpa using hl)⟩
  · have e := law_sum_ok (n := n) (ts := ⟨i, fun _ => 0, 1⟩ :: ts) fun t ht => by
      rcases List.mem_cons.mp ht with rfl | ht
      · exact ⟨mul1 hi (by omega) (a := 1) (c := 1) (by decide) (by decide), fun _ _ => mul1 (i := 0) (b := 1) (by decide) (by decide) (a := 1) (c := 1) (by decide) (by decide)⟩
      · exact term_ok hb (h3 t ht)
    rw [const_d]
    exact e
  · rcases List.mem_cons.mp ht with rfl | ht
    · simpa using hi
    · exact h1 t ht
  · rcases List.mem_cons.mp ht with rfl | ht
    · simpa using hp
    · exact h2 t ht m hm
/-- some names drawn, in order -/
theorem some_names {Rs : Sto} {n : Nat} {M : Sto} {l : List Str} {e : E} {env : En} {bound : Int} (hl : l.length ≤ 7) (nd : l.Nodup) (hN : ∀ x ∈ l, x ∈ NL) (d : Deal Rs M) (h0 : env[0]? = some (some (.loc 1))) (h1 : env[1]? = some (some (.lst (l.map .str)))) (hb : 0 < bound) (hd : divOk bound = true)
    (he : ∀ M, evE (callN T (n + 2)) e env M = .ok (.int bound) M) :
    ∃ (p : List Str) (X : Sto) (M' : Sto), evE (callN T (n + 2)) (.bi .sorted false (.cons (.slc false (.call "_law_mixed" (.cons (.var 0) (.cons (.var 1) .nil))) .non (.som (.call "_law_any" (.cons (.var 0) (.cons e .nil))))) .nil)) env M = .ok (.lst ((NL.filter fun n => decide (n ∈ p)).map .str)) M' ∧ Deal (Rs ++ X) M' ∧ ∀ x ∈ p, x ∈ l := by
  obtain ⟨zs, X, M1, e1, d1, hp⟩ := mixed_names (n := n) (by omega) hN d
  obtain ⟨r, M2, e2, d2, r0, r1⟩ := law_any_ok (n := n + 1) d1 hb hd
  have hr : r = ((r.toNat : Nat) : Int) := by omega
  have hcut : cut (zs.map D.str) none (some r) = (zs.take r.toNat).map D.str := by
    rw [hr, List.map_take]
    exact cut_to
  have k := bd_sorted (m := false) (M := M2) (bs := zs.take r.toNat) (by rw [List.length_take, hp.length_eq]; omega)
  rw [sorted_some hp nd hN] at k
  refine ⟨zs.take r.toNat, X, M2, ?_, d2, fun x hx => hp.mem_iff.mp ((List.take_sublist _ _).subset hx)⟩
  simp [h0, h1, e1, he, e2, slcD]
  rw [hcut, k]
  rfl
end K21T
end Z


/-! K21D: what is drawn. -/
namespace Z
namespace K21T
open PySem L2
variable {Rs : Sto} {n : Nat} {M : Sto}
theorem law_number_ok (d : Deal Rs M) : ∃ v M', callN T (n + 3) "_law_number" [.loc 1] M = .ok (.int v) M' ∧ v.natAbs < 2 ^ 100 ∧ Deal Rs M' := by
  obtain ⟨r1, M1, a1, a2, a3, a4⟩ := law_any_ok (n := n + 1) (bound := 60) d (by decide) (by decide +kernel)
  obtain ⟨r2, M2, b1, b2, b3, b4⟩ := law_any_ok (n := n + 1) (bound := 9) a2 (by decide) (by decide +kernel)
  obtain ⟨r3, M3, c1, c2, c3, c4⟩ := law_any_ok (n := n + 1) (bound := 9) b2 (by decide) (by decide +kernel)
  obtain ⟨x, hx, M', e1, e2⟩ := law_of_ok (n := n) (xs := [.int 0, .int 1, .int 2, .int (-1), .int (-3), .int 5, .int (-8), .int 12, .int (r1 - 30), .int (100000000000000000000 + r2), .int (r3 - 10000000000000000000000000)]) c2 (by simp) (by simp)
  have k2 : ∀ M, binD .pow (.int 10) (.int 20) M = .ok (.int 100000000000000000000) M := fun M => bn_pow (by decide +kernel)
  have k3 : ∀ M, binD .pow (.int 10) (.int 25) M = .ok (.int 10000000000000000000000000) M := fun M => bn_pow (by decide +kernel)
  have fin : ∀ v : Int, v.natAbs < 2 ^ 100 → x = .int v → ∃ v M', callN T (n + 3) "_law_number" [.loc 1] M = .ok (.int v) M' ∧ v.natAbs < 2 ^ 100 ∧ Deal Rs M' := by
    rintro v hv rfl
    refine ⟨v, M', ?_, hv, e2⟩
    refine free_call (fn := f_law_number) (by kernel_rfl) rfl rfl ?_
    simp [f_law_number, a1, k2, b1, k3, c1, e1]
  simp only [List.mem_cons, List.not_mem_nil, or_false] at hx
  rcases hx with h | h | h | h | h | h | h | h | h | h | h <;> exact fin _ (by omega) h
def smallL : List D := [.int 1, .int (-1), .int 2, .int (-2), .int 3, .int (-5), .int 7]
theorem small_ok : ∀ d ∈ smallL, ∃ v : Int, d = .int v ∧ v.natAbs < 2 ^ 100 := by
  intro d hd
  simp only [smallL, List.mem_cons, List.not_mem_nil, or_false] at hd
  rcases hd with rfl | rfl | rfl | rfl | rfl | rfl | rfl <;> exact ⟨_, rfl, by decide⟩
theorem law_form_ok {l : List Str} (hl : l.length ≤ 7) (nd : l.Nodup) (hN : ∀ x ∈ l, x ∈ NL) (d : Deal Rs M) : ∃ c f X M', callN T (n + 5) "_law_form" [.loc 1, .lst (l.map .str)] M = .ok (fmD c f) M' ∧ Sm 104 c f ∧ Deal (Rs ++ X) M' := by
  obtain ⟨p, X, M1, e1, d1, hp⟩ := some_names (n := n + 2) (e := .cst (.int 4)) (env := [some (.loc 1), some (.lst (l.map .str)), none, none]) hl nd hN d rfl rfl (by decide) (by decide +kernel) fun _ => rfl
  obtain ⟨r, M2, e2, d2, r0, r1⟩ := law_any_ok (n := n + 3) (bound := 21) d1 (by decide) (by decide +kernel)
  obtain ⟨ys, M3, e3, d3, hf⟩ := comp_draw (t := .n 3) (el := fun env M => evE (callN T (n + 4)) f_law_form_c0 env M) (env := [some (.loc 1), some (.lst (l.map .str)), some (.lst ((NL.filter fun n => decide (n ∈ p)).map .str)), none]) (R := fun d y => ∃ x v, d = D.str x ∧ y = D.tup [.tup [.int 0, .tup [.tup [.str x, .int 1]]], .int v] ∧ v.natAbs < 2 ^ 100) (items := (NL.filter fun n => decide (n ∈ p)).map .str) d2 (by
    intro x hx M dl
    obtain ⟨z, _, rfl⟩ := List.mem_map.mp hx
    obtain ⟨v, hv, M', g1, g2⟩ := law_of_ok (n := n + 2) (xs := smallL) dl (by decide) (by decide)
    obtain ⟨i, rfl, hi⟩ := small_ok v hv
    unfold smallL at g1
    exact ⟨_, .tup [.tup [.int 0, .tup [.tup [.str z, .int 1]]], .int i], M', rfl, by simp [f_law_form_c0, g1], g2, z, i, rfl, rfl, hi⟩)
  obtain ⟨ts, t1, t2, t3, t4, t5⟩ := units_of (fun x hx => (List.mem_filter.mp hx).1) hf
  have hlen : ts.length ≤ 7 := by rw [t2]; exact Nat.le_trans (List.length_filter_le _ _) (by decide)
  obtain ⟨c, f, k1, k2⟩ := units_sum (n := n + 3) (b := 100) (k := 4) (i := r - 10) (by omega) (by decide) (by omega) t3 t4 t5
  refine ⟨c, f, X, M3, ?_, k2, d3⟩
  refine free_call (fn := f_law_form) (by kernel_rfl) rfl rfl ?_
  have s1 : evS (callN T (n + 4)) (.asg (.n 2) (.bi .sorted false (.cons (.slc false (.call "_law_mixed" (.cons (.var 0) (.cons (.var 1) .nil))) .non (.som (.call "_law_any" (.cons (.var 0) (.cons (.cst (.int 4)) .nil))))) .nil))) [some (.loc 1), some (.lst (l.map .str)), none, none] M = .ok (.nx [some (.loc 1), some (.lst (l.map .str)), some (.lst ((NL.filter fun n => decide (n ∈ p)).map .str)), none]) M1 := by
    rw [es_asg, e1]; rfl
  unfold f_law_form
  dsimp only
  rw [show ([D.loc 1, .lst (l.map .str)].map some ++ List.replicate (4 - 2) none) = [some (.loc 1), some (.lst (l.map .str)), none, none] from rfl, stepS s1]
  refine stepR ?_
  have b1 : ∀ M, binD .add (.lst [.tup [.tup [.int (r - 10), .tup []], .int 1]]) (.lst ys) M = .ok (.lst (.tup [.tup [.int (r - 10), .tup []], .int 1] :: ys)) M := fun M => bn_cat (decide_eq_true (by rw [t1]; simp; omega))
  simp [e2]
  rw [e3]
  simp [b1]
  rw [t1]
  exact k1 M3
theorem law_long_form_ok {l : List Str} (hl : l.length ≤ 7) (nd : l.Nodup) (hN : ∀ x ∈ l, x ∈ NL) (d : Deal Rs M) : ∃ c f X M', callN T (n + 5) "_law_long_form" [.loc 1, .lst (l.map .str)] M = .ok (fmD c f) M' ∧ Sm 104 c f ∧ Deal (Rs ++ X) M' := by
  have hb : divOk ((l.length : Int) + 1) = true := by
    refine decide_eq_true ⟨by omega, ?_⟩
    have h2 : ((l.length : Int) + 1).natAbs.log2 ≤ ((l.length : Int) + 1).natAbs := Nat.log2_le_self _
    omega
  obtain ⟨p, X, M1, e1, d1, hp⟩ := some_names (n := n + 2) (bound := (l.length : Int) + 1) (e := .bin .add (.bi .len false (.cons (.var 1) .nil)) (.cst (.int 1))) (env := [some (.loc 1), some (.lst (l.map .str)), none, none]) hl nd hN d rfl rfl (by omega) hb fun _ => by simp
  obtain ⟨r, M2, e2, r1, d2⟩ := law_number_ok (n := n + 1) d1
  obtain ⟨ys, M3, e3, d3, hf⟩ := comp_draw (t := .n 3) (el := fun env M => evE (callN T (n + 4)) f_law_long_form_c0 env M) (env := [some (.loc 1), some (.lst (l.map .str)), some (.lst ((NL.filter fun n => decide (n ∈ p)).map .str)), none]) (R := fun d y => ∃ x v, d = D.str x ∧ y = D.tup [.tup [.int 0, .tup [.tup [.str x, .int 1]]], .int v] ∧ v.natAbs < 2 ^ 100) (items := (NL.filter fun n => decide (n ∈ p)).map .str) d2 (by
    intro x hx M dl
    obtain ⟨z, _, rfl⟩ := List.mem_map.mp hx
    obtain ⟨v, M', g1, hi, g2⟩ := law_number_ok (n := n + 1) dl
    exact ⟨_, .tup [.tup [.int 0, .tup [.tup [.str z, .int 1]]], .int v], M', rfl, by simp [f_law_long_form_c0, g1], g2, z, v, rfl, rfl, hi⟩)
  obtain ⟨ts, t1, t2, t3, t4, t5⟩ := units_of (fun x hx => (List.mem_filter.mp hx).1) hf
  have hlen : ts.length ≤ 7 := by rw [t2]; exact Nat.le_trans (List.length_filter_le _ _) (by decide)
  obtain ⟨c, f, k1, k2⟩ := units_sum (n := n + 3) (b := 100) (k := 4) (i := r) r1 (by decide) (by omega) t3 t4 t5
  refine ⟨c, f, X, M3, ?_, k2, d3⟩
  refine free_call (fn := f_law_long_form) (by kernel_rfl) rfl rfl ?_
  have s1 : evS (callN T (n + 4)) (.asg (.n 2) (.bi .sorted false (.cons (.slc false (.call "_law_mixed" (.cons (.var 0) (.cons (.var 1) .nil))) .non (.som (.call "_law_any" (.cons (.var 0) (.cons (.bin .add (.bi .len false (.cons (.var 1) .nil)) (.cst (.int 1))) .nil))))) .nil))) [some (.loc 1), some (.lst (l.map .str)), none, none] M = .ok (.nx [some (.loc 1), some (.lst (l.map .str)), some (.lst ((NL.filter fun n => decide (n ∈ p)).map .str)), none]) M1 := by
    rw [es_asg, e1]; rfl
  unfold f_law_long_form
  dsimp only
  rw [show ([D.loc 1, .lst (l.map .str)].map some ++ List.replicate (4 - 2) none) = [some (.loc 1), some (.lst (l.map .str)), none, none] from rfl, stepS s1]
  refine stepR ?_
  have b1 : ∀ M, binD .add (.lst [.tup [.tup [.int r, .tup []], .int 1]]) (.lst ys) M = .ok (.lst (.tup [.tup [.int r, .tup []], .int 1] :: ys)) M := fun M => bn_cat (decide_eq_true (by rw [t1]; simp; omega))
  simp [e2]
  rw [e3]
  simp [b1]
  rw [t1]
  exact k1 M3
theorem pairs_of' : ∀ {l : List Str} {ys : List D}, l.Nodup → F2 (fun d y => ∃ x v, d = D.str x ∧ y = D.tup [.str x, .int v] ∧ v.natAbs < 2 ^ 100) (l.map .str) ys → ∃ g : Str → Int, ys = prsD l g ∧ ∀ n ∈ l, (g n).natAbs < 2 ^ 100
  | [], ys, _, h => by cases h; exact ⟨fun _ => 0, rfl, fun _ h => (nomatch h)⟩
  | m :: r, ys, nd, h => by
    rw [List.map_cons] at h
    obtain ⟨n1, n2⟩ := List.nodup_cons.mp nd
    cases h with
    | cons q t =>
      obtain ⟨x, v, e1, e2, e3⟩ := q
      cases e1
      obtain ⟨g, h1, h2⟩ := pairs_of' n2 t
      refine ⟨fun n => if n = m then v else g n, ?_, fun n hn => ?_⟩
      · rw [e2, h1]
        unfold prsD
        rw [List.map_cons]
        simp
        intro a ha
        intro e
        subst e
        exact absurd ha n1
      · by_cases e : n = m
        · simp [e, e3]
        · simp [e]
          rcases List.mem_cons.mp hn with h | h
          · exact absurd h e
          · exact h2 n h
theorem law_worths_ok {l : List Str} (hl : l.length ≤ 7) (nd : l.Nodup) (hN : ∀ x ∈ l, x ∈ NL) (d : Deal Rs M) : ∃ S g X M', callN T (n + 5) "_law_worths" [.loc 1, .lst (l.map .str)] M = .ok (wtD S g) M' ∧ (∀ m ∈ NL, (gW S g m).natAbs < 2 ^ 100) ∧ Deal (Rs ++ X) M' := by
  have hb : divOk ((l.length : Int) + 1) = true := by
    refine decide_eq_true ⟨by omega, ?_⟩
    have h2 : ((l.length : Int) + 1).natAbs.log2 ≤ ((l.length : Int) + 1).natAbs := Nat.log2_le_self _
    omega
  obtain ⟨p, X, M1, e1, d1, hp⟩ := some_names (n := n + 2) (bound := (l.length : Int) + 1) (e := .bin .add (.bi .len false (.cons (.var 1) .nil)) (.cst (.int 1))) (env := [some (.loc 1), some (.lst (l.map .str)), none, none]) hl nd hN d rfl rfl (by omega) hb fun _ => by simp
  obtain ⟨ys, M3, e3, d3, hf⟩ := comp_draw (t := .n 3) (el := fun env M => evE (callN T (n + 4)) f_law_worths_c0 env M) (env := [some (.loc 1), some (.lst (l.map .str)), some (.lst ((NL.filter fun n => decide (n ∈ p)).map .str)), none]) (R := fun d y => ∃ x v, d = D.str x ∧ y = D.tup [.str x, .int v] ∧ v.natAbs < 2 ^ 100) (items := (NL.filter fun n => decide (n ∈ p)).map .str) d1 (by
    intro x hx M dl
    obtain ⟨z, _, rfl⟩ := List.mem_map.mp hx
    obtain ⟨u1, M1, a1, a2, a3, a4⟩ := law_any_ok (n := n + 3) (bound := 9) dl (by decide) (by decide +kernel)
    obtain ⟨u2, M2, b1, b2, b3, b4⟩ := law_any_ok (n := n + 3) (bound := 60) a2 (by decide) (by decide +kernel)
    obtain ⟨u3, M3, c1, c2, c3⟩ := law_number_ok (n := n + 1) b2
    obtain ⟨v, hv, M', g1, g2⟩ := law_of_ok (n := n + 2) (xs := [.int (u1 - 4), .int (u2 - 30), .int u3]) c3 (by simp) (by simp)
    obtain ⟨i, rfl, hi⟩ : ∃ i : Int, v = .int i ∧ i.natAbs < 2 ^ 100 := by
      simp only [List.mem_cons, List.not_mem_nil, or_false] at hv
      rcases hv with rfl | rfl | rfl
      · exact ⟨_, rfl, by omega⟩
      · exact ⟨_, rfl, by omega⟩
      · exact ⟨_, rfl, c2⟩
    exact ⟨_, .tup [.str z, .int i], M', rfl, by simp [f_law_worths_c0, a1, b1, c1, g1], g2, z, i, rfl, rfl, hi⟩)
  obtain ⟨g, g1, g2⟩ := pairs_of' (NL_nd.sublist List.filter_sublist) hf
  refine ⟨fun n => decide (n ∈ p), g, X, M3, ?_, fun m hm => ?_, d3⟩
  · refine free_call (fn := f_law_worths) (by kernel_rfl) rfl rfl ?_
    have s1 : evS (callN T (n + 4)) (.asg (.n 2) (.bi .sorted false (.cons (.slc false (.call "_law_mixed" (.cons (.var 0) (.cons (.var 1) .nil))) .non (.som (.call "_law_any" (.cons (.var 0) (.cons (.bin .add (.bi .len false (.cons (.var 1) .nil)) (.cst (.int 1))) .nil))))) .nil))) [some (.loc 1), some (.lst (l.map .str)), none, none] M = .ok (.nx [some (.loc 1), some (.lst (l.map .str)), some (.lst ((NL.filter fun n => decide (n ∈ p)).map .str)), none]) M1 := by
      rw [es_asg, e1]; rfl
    unfold f_law_worths
    dsimp only
    rw [show ([D.loc 1, .lst (l.map .str)].map some ++ List.replicate (4 - 2) none) = [some (.loc 1), some (.lst (l.map .str)), none, none] from rfl, stepS s1]
    refine stepR ?_
    simp
    rw [e3]
    simp [g1, wtD]
  · unfold gW
    by_cases h : m ∈ p
    · rw [if_pos (decide_eq_true h)]; exact g2 m (List.mem_filter.mpr ⟨hm, decide_eq_true h⟩)
    · rw [if_neg (by simpa using h)]; decide
end K21T
end Z


/-! K21P: what the program's functions of shadows give. -/
namespace Z
namespace K21T
open PySem L2
variable {n : Nat} {x : Str}
/-- a linear form, of any size within bounds -/
structure Fo where
  c : Int
  f : Str → Int
def Fo.d (p : Fo) : D := fmD p.c p.f
def Fo.ok (p : Fo) : Prop := Sm 300 p.c p.f
/-- a list or a tuple -/
def IsSeq (s : D) (xs : List D) : Prop := s = .tup xs ∨ s = .lst xs
theorem IsSeq.walk {s : D} {xs : List D} (h : IsSeq s xs) : walkD s = some xs := by rcases h with rfl | rfl <;> rfl
theorem seq_ok {s : D} {xs : List D} (h : IsSeq s xs) : Calc (callN T (n + 1)) "is_sequence" [s] (.bl true) :=
  own_call (fn := f_is_sequence) (by kernel_rfl) rfl rfl rfl fun M => ⟨[], by rw [List.append_nil]; rcases h with rfl | rfl <;> simp [f_is_sequence]⟩
theorem bools_all {α : Type} {f : α → Bool} {M : Sto} {l : List α} : biD .all false [.lst (l.map fun x => D.bl (f x))] M = .ok (.bl (l.all f)) M := by
  rw [bd_all (bools_map l), List.all_map]; rfl
theorem bools_any {α : Type} {f : α → Bool} {M : Sto} {l : List α} : biD .any false [.lst (l.map fun x => D.bl (f x))] M = .ok (.bl (l.any f)) M := by
  rw [bd_any (bools_map l), List.any_map]; rfl
theorem checked_forms_ok {s : D} {ps : List Fo} {k : Int} (h : IsSeq s (ps.map Fo.d)) : Calc (callN T (n + 4)) "checked_forms" [s, .int k] .non := by
  refine own_callN (fn := f_checked_forms) (by kernel_rfl) rfl rfl fun M => ⟨[some s, some (.int k), none], [], ?_⟩
  rw [List.append_nil]
  have e : compGo (.n 2) (fun _ M => .ok true M) (fun env M => evE (callN T (n + 3)) f_checked_forms_c0 env M) [some s, some (.int k), none] (ps.map Fo.d) M = .ok (ps.map fun _ => D.bl true) M := by
    rw [comp_pure (p := fun _ => true) (q := fun _ => D.bl true) fun d hd => ?_]
    · rw [List.filter_eq_self.mpr (fun _ _ => rfl), List.map_map]; rfl
    · obtain ⟨p, _, rfl⟩ := List.mem_map.mp hd
      exact ⟨_, rfl, rfl, fun _ => by simp [f_checked_forms_c0, Fo.d, is_form_ok (n := n) M]⟩
  have e2 := bd_all_true (m := false) (M := M) (l := ps)
  simp [f_checked_forms, seq_ok (n := n + 2) h M, h.walk]
  rw [e]
  simp [e2]
theorem checked_question_ok {s : D} {ps : List Fo} (h : IsSeq s (ps.map Fo.d)) (hx : x ∈ NL) : Calc (callN T (n + 5)) "checked_question" [s, .str x] .non := by
  refine own_callN (fn := f_checked_question) (by kernel_rfl) rfl rfl fun M => ⟨[some s, some (.str x)], [], ?_⟩
  rw [List.append_nil]
  simp [f_checked_question, checked_forms_ok (n := n) (k := 0) h M, is_unknown_ok (n := n + 3) hx M]
/-! ### three lists -/
def restL (x : Str) (ps : List Fo) : List Fo := ps.filter fun p => decide (p.f x = 0)
def lowL (x : Str) (ps : List Fo) : List Fo := ps.filter fun p => decide (0 < p.f x)
def highL (x : Str) (ps : List Fo) : List Fo := ps.filter fun p => decide (p.f x < 0)
theorem own_callF {T : String → Option Fn} {g : String} {fn : Fn} {ds : List D} {r d : D} {M : Sto} (hT : T g = some fn) (ho : fn.own = true) (hl : ds.length = fn.np)
    (h : ∃ M', evSs (callN T n) fn.body (ds.map some ++ List.replicate (fn.ns - fn.np) none) M = .ok (.ret d) (M ++ M') ∧ D.frz (M ++ M') M.length d = some r) (hz : fn.low = 0 := by rfl) : callN T (n + 1) g ds M = .ok r M := by
  obtain ⟨M', e, e2⟩ := h
  rw [callN_s hT, hz]
  unfold runF
  rw [if_pos hl, Nat.sub_zero, e]
  show back fn.own M d (M ++ M') = _
  unfold back
  rw [if_pos ho, if_pos (by rw [List.take_left]), e2]
section
variable {P : Sto} {u v w y : MO}
theorem tri0 : (P ++ [u, v, w])[P.length]? = some u := by simp
theorem tri1 : (P ++ [u, v, w])[P.length + 1]? = some v := by simp
theorem tri2 : (P ++ [u, v, w])[P.length + 2]? = some w := by simp
theorem trs0 : (P ++ [u, v, w]).set P.length y = P ++ [y, v, w] := by simp
theorem trs1 : (P ++ [u, v, w]).set (P.length + 1) y = P ++ [u, y, w] := by simp
theorem trs2 : (P ++ [u, v, w]).set (P.length + 2) y = P ++ [u, v, y] := by simp
end
theorem it_2 {α : Type} {a b c : α} {r : List α} : itemAt (a :: b :: c :: r) 2 = some c := by
  have h : ixN (r.length + 1 + 1 + 1) 2 = some 2 := by unfold ixN; rw [if_pos (by omega), if_pos (by omega)]; rfl
  show (ixN (a :: b :: c :: r).length 2).bind _ = _
  rw [List.length_cons, List.length_cons, List.length_cons, h]; rfl
theorem sides_loop {P : Sto} {p0 : Option D} (hx : x ∈ NL) : ∀ (ps : List Fo) (r l h : List D) (x3 x4 : Option D), r.length + l.length + h.length + ps.length ≤ 1000 →
    ∃ y3 y4, forGo (.n 3) (fun env M => evSs (callN T (n + 1)) f_sides_b0 env M) (ps.map Fo.d) [p0, some (.str x), some (.tup [.loc P.length, .loc (P.length + 1), .loc (P.length + 2)]), x3, x4] (P ++ [.lst r, .lst l, .lst h]) =
      .ok (.nx [p0, some (.str x), some (.tup [.loc P.length, .loc (P.length + 1), .loc (P.length + 2)]), y3, y4]) (P ++ [.lst (r ++ (restL x ps).map Fo.d), .lst (l ++ (lowL x ps).map Fo.d), .lst (h ++ (highL x ps).map Fo.d)])
  | [], r, l, h, x3, x4, _ => ⟨x3, x4, by simp [forGo, restL, lowL, highL]⟩
  | p :: ps, r, l, h, x3, x4, hz => by
    rw [List.length_cons] at hz
    have k := factor_in_ok (n := n) (c := p.c) (f := p.f) hx (P ++ [.lst r, .lst l, .lst h])
    rw [List.map_cons]
    unfold forGo
    rcases Int.lt_trichotomy (p.f x) 0 with hf | hf | hf
    · obtain ⟨y3, y4, e⟩ := sides_loop (P := P) (p0 := p0) hx ps r l (h ++ [p.d]) (some p.d) (some (.int (p.f x))) (by simp; omega)
      refine ⟨y3, y4, ?_⟩
      have g1 := md_append (d := p.d) (tri2 (P := P) (u := .lst r) (v := .lst l) (w := .lst h)) (by omega)
      rw [trs2] at g1
      have g2 := kd_append (tri2 (P := P) (u := .lst r) (v := .lst l) (w := .lst h))
      have n1 : ¬ p.f x = 0 := by omega
      have n2 : ¬ 0 < p.f x := by omega
      have b1 : evSs (callN T (n + 1)) f_sides_b0 [p0, some (.str x), some (.tup [.loc P.length, .loc (P.length + 1), .loc (P.length + 2)]), some p.d, x4] (P ++ [.lst r, .lst l, .lst h]) = .ok (.nx [p0, some (.str x), some (.tup [.loc P.length, .loc (P.length + 1), .loc (P.length + 2)]), some p.d, some (.int (p.f x))]) (P ++ [.lst r, .lst l, .lst (h ++ [p.d])]) := by
        simp [f_sides_b0, Fo.d] at k g1 ⊢
        simp [k, n1, n2, it_2, g1, g2]
      rw [show asgD (.n 3) p.d [p0, some (.str x), some (.tup [.loc P.length, .loc (P.length + 1), .loc (P.length + 2)]), x3, x4] = some [p0, some (.str x), some (.tup [.loc P.length, .loc (P.length + 1), .loc (P.length + 2)]), some p.d, x4] from rfl]
      dsimp only
      rw [b1]
      dsimp only
      rw [e]
      simp [restL, lowL, highL, n1, n2, hf]
    · obtain ⟨y3, y4, e⟩ := sides_loop (P := P) (p0 := p0) hx ps (r ++ [p.d]) l h (some p.d) (some (.int (p.f x))) (by simp; omega)
      refine ⟨y3, y4, ?_⟩
      have g1 := md_append (d := p.d) (tri0 (P := P) (u := .lst r) (v := .lst l) (w := .lst h)) (by omega)
      rw [trs0] at g1
      have g2 := kd_append (tri0 (P := P) (u := .lst r) (v := .lst l) (w := .lst h))
      have n2 : ¬ 0 < p.f x := by omega
      have n3 : ¬ p.f x < 0 := by omega
      have b1 : evSs (callN T (n + 1)) f_sides_b0 [p0, some (.str x), some (.tup [.loc P.length, .loc (P.length + 1), .loc (P.length + 2)]), some p.d, x4] (P ++ [.lst r, .lst l, .lst h]) = .ok (.nx [p0, some (.str x), some (.tup [.loc P.length, .loc (P.length + 1), .loc (P.length + 2)]), some p.d, some (.int (p.f x))]) (P ++ [.lst (r ++ [p.d]), .lst l, .lst h]) := by
        simp [f_sides_b0, Fo.d] at k g1 ⊢
        simp [k, hf, g1, g2]
      rw [show asgD (.n 3) p.d [p0, some (.str x), some (.tup [.loc P.length, .loc (P.length + 1), .loc (P.length + 2)]), x3, x4] = some [p0, some (.str x), some (.tup [.loc P.length, .loc (P.length + 1), .loc (P.length + 2)]), some p.d, x4] from rfl]
      dsimp only
      rw [b1]
      dsimp only
      rw [e]
      simp [restL, lowL, highL, hf]
    · obtain ⟨y3, y4, e⟩ := sides_loop (P := P) (p0 := p0) hx ps r (l ++ [p.d]) h (some p.d) (some (.int (p.f x))) (by simp; omega)
      refine ⟨y3, y4, ?_⟩
      have g1 := md_append (d := p.d) (tri1 (P := P) (u := .lst r) (v := .lst l) (w := .lst h)) (by omega)
      rw [trs1] at g1
      have g2 := kd_append (tri1 (P := P) (u := .lst r) (v := .lst l) (w := .lst h))
      have n1 : ¬ p.f x = 0 := by omega
      have n3 : ¬ p.f x < 0 := by omega
      have b1 : evSs (callN T (n + 1)) f_sides_b0 [p0, some (.str x), some (.tup [.loc P.length, .loc (P.length + 1), .loc (P.length + 2)]), some p.d, x4] (P ++ [.lst r, .lst l, .lst h]) = .ok (.nx [p0, some (.str x), some (.tup [.loc P.length, .loc (P.length + 1), .loc (P.length + 2)]), some p.d, some (.int (p.f x))]) (P ++ [.lst r, .lst (l ++ [p.d]), .lst h]) := by
        simp [f_sides_b0, Fo.d] at k g1 ⊢
        simp [k, n1, hf, g1, g2]
      rw [show asgD (.n 3) p.d [p0, some (.str x), some (.tup [.loc P.length, .loc (P.length + 1), .loc (P.length + 2)]), x3, x4] = some [p0, some (.str x), some (.tup [.loc P.length, .loc (P.length + 1), .loc (P.length + 2)]), some p.d, x4] from rfl]
      dsimp only
      rw [b1]
      dsimp only
      rw [e]
      simp [restL, lowL, highL, n1, n3, hf]
theorem still_prs {l : List Str} {g : Str → Int} : D.stills (prsD l g) = true := by
  unfold prsD
  induction l with
  | nil => rfl
  | cons x r ih => show (D.still (.tup [.str x, .int (g x)]) && D.stills (prsD r g)) = true; rw [show D.stills (prsD r g) = true from ih]; rfl
theorem still_fos : ∀ ps : List Fo, D.stills (ps.map Fo.d) = true
  | [] => rfl
  | p :: r => by
    show (D.still (fmD p.c p.f) && D.stills (r.map Fo.d)) = true
    rw [still_fos r, Bool.and_true]
    show (true && (D.stills (prsD (rowL p.f) p.f) && true)) = true
    rw [still_prs]; rfl
theorem sides_ok {s : D} {ps : List Fo} (h : IsSeq s (ps.map Fo.d)) (hx : x ∈ NL) (hl : ps.length ≤ 1000) : Calc (callN T (n + 2)) "sides" [s, .str x] (.tup [.lst ((restL x ps).map Fo.d), .lst ((lowL x ps).map Fo.d), .lst ((highL x ps).map Fo.d)]) := by
  intro M
  obtain ⟨y3, y4, e⟩ := sides_loop (n := n) (P := M) (p0 := some s) hx ps [] [] [] none none (by simp; omega)
  refine own_callF (fn := f_sides) (d := .tup [.loc M.length, .loc (M.length + 1), .loc (M.length + 2)]) (by kernel_rfl) rfl rfl ⟨[.lst ((restL x ps).map Fo.d), .lst ((lowL x ps).map Fo.d), .lst ((highL x ps).map Fo.d)], ?_, ?_⟩
  · simp at e
    simp [f_sides, h.walk]
    rw [e]
    simp
  · have e0 : D.frz (M ++ [.lst ((restL x ps).map Fo.d), .lst ((lowL x ps).map Fo.d), .lst ((highL x ps).map Fo.d)]) M.length (.loc M.length) = some (.lst ((restL x ps).map Fo.d)) := by
      rw [D.frz, if_neg (by omega), tri0]
      dsimp only
      rw [if_pos (still_fos _)]
    have e1 : D.frz (M ++ [.lst ((restL x ps).map Fo.d), .lst ((lowL x ps).map Fo.d), .lst ((highL x ps).map Fo.d)]) M.length (.loc (M.length + 1)) = some (.lst ((lowL x ps).map Fo.d)) := by
      rw [D.frz, if_neg (by omega), tri1]
      dsimp only
      rw [if_pos (still_fos _)]
    have e2 : D.frz (M ++ [.lst ((restL x ps).map Fo.d), .lst ((lowL x ps).map Fo.d), .lst ((highL x ps).map Fo.d)]) M.length (.loc (M.length + 2)) = some (.lst ((highL x ps).map Fo.d)) := by
      rw [D.frz, if_neg (by omega), tri2]
      dsimp only
      rw [if_pos (still_fos _)]
    rw [D.frz, D.frzs, e0, D.frzs, e1, D.frzs, e2, D.frzs]
    rfl
/-! ### what two bounds say together -/
def gapD (dark : Bool) (over under : Int) : Int := if dark = true then (over - 1) * (under - 1) else 0
def crT (x : Str) (dark : Bool) (l h : Fo) : List Term := [⟨l.c, l.f, -(h.f x)⟩, ⟨h.c, h.f, l.f x⟩, ⟨-(gapD dark (l.f x) (-(h.f x))), fun _ => 0, 1⟩]
def crF (x : Str) (dark : Bool) (l h : Fo) : Fo := ⟨sumC (crT x dark l h), sumF (crT x dark l h)⟩
theorem neg_lt {i : Int} {b : Nat} (h : i.natAbs < 2 ^ b) : (-i).natAbs < 2 ^ b := by rw [Int.natAbs_neg]; exact h
theorem gap_lt {dark : Bool} {i j : Int} (hi : i.natAbs < 2 ^ 300) (hj : j.natAbs < 2 ^ 300) : (gapD dark i j).natAbs < 2 ^ 602 := by
  unfold gapD
  split
  · exact abs_mul (a := 301) (b := 301) (abs_sub hi (j := 1) (Nat.lt_of_lt_of_le (by decide : (1 : Int).natAbs < 2 ^ 1) (pow_le (by decide)))) (abs_sub hj (j := 1) (Nat.lt_of_lt_of_le (by decide : (1 : Int).natAbs < 2 ^ 1) (pow_le (by decide))))
  · exact Nat.two_pow_pos _
theorem crT_ok {dark : Bool} {l h : Fo} (hx : x ∈ NL) (hl : l.ok) (hh : h.ok) : ∀ t ∈ crT x dark l h, t.ok := by
  intro t ht
  simp only [crT, List.mem_cons, List.not_mem_nil, or_false] at ht
  rcases ht with rfl | rfl | rfl
  · exact hl.ok (by decide) (neg_lt (hh.f x hx)) (by decide)
  · exact hh.ok (by decide) (hl.f x hx) (by decide)
  · exact ⟨mul1 (neg_lt (gap_lt (hl.f x hx) (neg_lt (hh.f x hx)))) (by decide) (a := 1) (c := 1) (by decide) (by decide), fun _ _ => mul1 (i := 0) (b := 1) (by decide) (by decide) (a := 1) (c := 1) (by decide) (by decide)⟩
theorem crossed_ok {dark : Bool} {l h : Fo} (hx : x ∈ NL) (hl : l.ok) (hh : h.ok) : Calc (callN T (n + 3)) "crossed" [l.d, h.d, .str x, .bl dark] (crF x dark l h).d := by
  refine own_call (fn := f_crossed) (by kernel_rfl) rfl rfl fm_pure fun M => ⟨[], ?_⟩
  rw [List.append_nil]
  have k1 := factor_in_ok (n := n + 1) (c := l.c) (f := l.f) hx M
  have k2 := factor_in_ok (n := n + 1) (c := h.c) (f := h.f) hx M
  have k3 := sum_of_ok (n := n) (crT_ok (dark := dark) hx hl hh) M
  have g := bn_mul (M := M) (i := l.f x - 1) (j := -(h.f x) - 1) (mul1 (b := 301) (abs_sub (hl.f x hx) (j := 1) (Nat.lt_of_lt_of_le (by decide : (1 : Int).natAbs < 2 ^ 1) (pow_le (by decide)))) (by decide) (c := 301) (abs_sub (neg_lt (hh.f x hx)) (j := 1) (Nat.lt_of_lt_of_le (by decide : (1 : Int).natAbs < 2 ^ 1) (pow_le (by decide)))) (by decide))
  have e : (crT x dark l h).map Term.d = [.tup [l.d, .int (-(h.f x))], .tup [h.d, .int (l.f x)], .tup [.tup [.int (-(gapD dark (l.f x) (-(h.f x)))), .tup []], .int 1]] := by
    rw [const_d]; rfl
  rw [e] at k3
  simp only [Fo.d, crF] at k3 ⊢
  cases dark with
  | true =>
    simp only [gapD, if_true] at k3
    simp [f_crossed, k1, k2, g, k3]
  | false =>
    simp only [gapD, Bool.false_eq_true, if_false, Int.neg_zero] at k3
    simp [f_crossed, k1, k2, k3]
/-! ### the shadow -/
def castL (x : Str) (dark : Bool) (ps : List Fo) : List Fo := restL x ps ++ (lowL x ps).flatMap fun l => (highL x ps).map fun h => crF x dark l h
theorem comp2_pure {t t1 : Tg} {it1 : En → Sto → Res (List D)} {el : En → Sto → Res D} {env : En} {own1 : List Nat} {M : Sto} {q : D → D → D} {items1 : List D} (hl : items1.length ≤ 1000) : ∀ {items : List D}, (∀ d ∈ items, ∃ e, asgD t d env = some e ∧ it1 e M = .ok items1 M ∧ ∀ d1 ∈ items1, ∃ e1, asgD t1 d1 (wipeE e own1) = some e1 ∧ el e1 M = .ok (q d d1) M) →
    compGo2 t (fun _ M => .ok true M) it1 t1 (fun _ M => .ok true M) el own1 env items M = .ok (items.flatMap fun d => items1.map (q d)) M
  | [], _ => rfl
  | d :: r, h => by
    obtain ⟨e, h1, h2, h3⟩ := h d List.mem_cons_self
    have ih := comp2_pure (q := q) hl (items := r) fun d hd => h d (List.mem_cons_of_mem _ hd)
    have e4 : compGo t1 (fun _ M => .ok true M) el (wipeE e own1) items1 M = .ok (items1.map (q d)) M := by
      rw [comp_pure (p := fun _ => true) (q := q d) fun d1 hd => ?_]
      · rw [List.filter_eq_self.mpr (fun _ _ => rfl)]
      · obtain ⟨e1, g1, g2⟩ := h3 d1 hd
        exact ⟨e1, g1, rfl, fun _ => g2⟩
    unfold compGo2
    rw [h1]
    dsimp only
    simp only [calm_ok, bind_ok, if_true, h2]
    rw [if_pos (decide_eq_true hl), e4]
    simp only [bind_ok]
    rw [ih]
    rfl
theorem fm_cong {α β : Type} {f g : α → List β} : ∀ {l : List α}, (∀ a ∈ l, f a = g a) → l.flatMap f = l.flatMap g
  | [], _ => rfl
  | a :: r, h => by rw [List.flatMap_cons, List.flatMap_cons, h a List.mem_cons_self, fm_cong (l := r) fun b hb => h b (List.mem_cons_of_mem _ hb)]
theorem cast_ok {s : D} {ps : List Fo} {dark : Bool} (h : IsSeq s (ps.map Fo.d)) (hx : x ∈ NL) (hp : ∀ p ∈ ps, p.ok) (hl : ps.length ≤ 500) : Calc (callN T (n + 4)) "cast" [s, .str x, .bl dark] (.tup ((castL x dark ps).map Fo.d)) := by
  have hpure : (D.tup ((castL x dark ps).map Fo.d)).pure = true := by
    show D.pures _ = true
    generalize castL x dark ps = l
    induction l with
    | nil => rfl
    | cons p r ih => show (D.pure (fmD p.c p.f) && D.pures (r.map Fo.d)) = true; rw [ih, fm_pure]; rfl
  refine own_call (fn := f_cast) (by kernel_rfl) rfl rfl hpure fun M => ⟨[], ?_⟩
  rw [List.append_nil]
  have k1 := sides_ok (n := n + 1) h hx (by omega) M
  have l1 : (restL x ps).length ≤ 500 := Nat.le_trans (List.length_filter_le _ _) hl
  have l2 : (lowL x ps).length ≤ 500 := Nat.le_trans (List.length_filter_le _ _) hl
  have l3 : (highL x ps).length ≤ 500 := Nat.le_trans (List.length_filter_le _ _) hl
  have k2 : ∀ env : En, env = [some s, some (.str x), some (.bl dark), some (.lst ((restL x ps).map Fo.d)), some (.lst ((lowL x ps).map Fo.d)), some (.lst ((highL x ps).map Fo.d)), none, none] →
      evE (callN T (n + 3)) (.comp2 false f_cast_c0 (.n 6) (.sq (.var 4)) .non (.n 7) (.sq (.var 5)) .non [6, 7] [7]) env M = .ok (.lst ((((lowL x ps).flatMap fun l => (highL x ps).map fun h => crF x dark l h)).map Fo.d)) M := by
    rintro env rfl
    have e := comp2_pure (t := .n 6) (t1 := .n 7) (it1 := fun env M => evIt (callN T (n + 3)) (.sq (.var 5)) env M) (el := fun env M => evE (callN T (n + 3)) f_cast_c0 env M) (env := [some s, some (.str x), some (.bl dark), some (.lst ((restL x ps).map Fo.d)), some (.lst ((lowL x ps).map Fo.d)), some (.lst ((highL x ps).map Fo.d)), none, none]) (own1 := [7]) (M := M)
      (q := fun a b => (match callN T (n + 3) "crossed" [a, b, .str x, .bl dark] M with | .ok d _ => d | _ => .non)) (items1 := (highL x ps).map Fo.d) (by rw [List.length_map]; omega) (items := (lowL x ps).map Fo.d) (fun d hd => by
        obtain ⟨l, hl, rfl⟩ := List.mem_map.mp hd
        refine ⟨_, rfl, by simp, fun d1 hd1 => ?_⟩
        obtain ⟨hh, hh2, rfl⟩ := List.mem_map.mp hd1
        have k := crossed_ok (n := n) (dark := dark) hx (hp l (List.mem_filter.mp hl).1) (hp hh (List.mem_filter.mp hh2).1) M
        refine ⟨_, rfl, ?_⟩
        simp [f_cast_c0, k])
    have l5 : decide (((lowL x ps).map Fo.d).length ≤ 1000) = true := decide_eq_true (by rw [List.length_map]; omega)
    rw [ev_comp2, show evIt (callN T (n + 3)) (.sq (.var 4)) [some s, some (.str x), some (.bl dark), some (.lst ((restL x ps).map Fo.d)), some (.lst ((lowL x ps).map Fo.d)), some (.lst ((highL x ps).map Fo.d)), none, none] M = .ok ((lowL x ps).map Fo.d) M from rfl]
    simp only [bind_ok, l5, if_true]
    rw [show wipeE [some s, some (.str x), some (.bl dark), some (.lst ((restL x ps).map Fo.d)), some (.lst ((lowL x ps).map Fo.d)), some (.lst ((highL x ps).map Fo.d)), none, none] [6, 7] = [some s, some (.str x), some (.bl dark), some (.lst ((restL x ps).map Fo.d)), some (.lst ((lowL x ps).map Fo.d)), some (.lst ((highL x ps).map Fo.d)), none, none] from rfl]
    refine Eq.trans (congrArg (fun r => Res.bind r _) e) ?_
    show Res.ok (D.lst _) M = _
    congr 2
    rw [List.flatMap_map, List.map_flatMap]
    refine fm_cong fun l hl => ?_
    rw [List.map_map, List.map_map]
    apply List.map_congr_left
    intro hh hh2
    have k := crossed_ok (n := n) (dark := dark) hx (hp l (List.mem_filter.mp hl).1) (hp hh (List.mem_filter.mp hh2).1) M
    show (match callN T (n + 3) "crossed" [l.d, hh.d, .str x, .bl dark] M with | .ok d _ => d | _ => .non) = _
    rw [k]; rfl
  have l4 : ((lowL x ps).flatMap fun l => (highL x ps).map fun h => crF x dark l h).length ≤ 500 * 500 := by
    rw [List.length_flatMap]
    have : ((lowL x ps).map fun l => ((highL x ps).map fun h => crF x dark l h).length) = (lowL x ps).map fun _ => (highL x ps).length := by
      apply List.map_congr_left
      intro l _
      rw [List.length_map]
    rw [this, List.map_const', List.sum_replicate_nat]
    exact Nat.mul_le_mul l2 l3
  have g := bn_cat (M := M) (xs := (restL x ps).map Fo.d) (ys := ((lowL x ps).flatMap fun l => (highL x ps).map fun h => crF x dark l h).map Fo.d) (decide_eq_true (by rw [List.length_map, List.length_map]; omega))
  have s1 : evS (callN T (n + 3)) (.asg (.t [3, 4, 5]) (.call "sides" (.cons (.var 0) (.cons (.var 1) .nil)))) [some s, some (.str x), some (.bl dark), none, none, none, none, none] M = .ok (.nx [some s, some (.str x), some (.bl dark), some (.lst ((restL x ps).map Fo.d)), some (.lst ((lowL x ps).map Fo.d)), some (.lst ((highL x ps).map Fo.d)), none, none]) M := by
    simp [k1]
  unfold f_cast
  dsimp only
  rw [show ([s, D.str x, .bl dark].map some ++ List.replicate (8 - 3) none) = [some s, some (.str x), some (.bl dark), none, none, none, none, none] from rfl, stepS s1]
  refine stepR ?_
  simp only [ev_bi, ev_cons, ev_bin, ev_nil]
  rw [show evE (callN T (n + 3)) (.var 3) [some s, some (.str x), some (.bl dark), some (.lst ((restL x ps).map Fo.d)), some (.lst ((lowL x ps).map Fo.d)), some (.lst ((highL x ps).map Fo.d)), none, none] M = .ok (.lst ((restL x ps).map Fo.d)) M from rfl]
  simp only [bind_ok]
  rw [k2 _ rfl]
  simp [g, castL]
theorem shadow_ok {s : D} {ps : List Fo} (h : IsSeq s (ps.map Fo.d)) (hx : x ∈ NL) (hp : ∀ p ∈ ps, p.ok) (hl : ps.length ≤ 500) : Calc (callN T (n + 6)) "shadow" [s, .str x] (.tup ((castL x false ps).map Fo.d)) := by
  refine own_call (fn := f_shadow) (by kernel_rfl) rfl rfl ?_ fun M => ⟨[], ?_⟩
  · show D.pures _ = true
    generalize castL x false ps = l
    induction l with
    | nil => rfl
    | cons p r ih => show (D.pure (fmD p.c p.f) && D.pures (r.map Fo.d)) = true; rw [ih, fm_pure]; rfl
  rw [List.append_nil]
  simp [f_shadow, checked_question_ok (n := n) h hx M, cast_ok (n := n + 1) (dark := false) h hx hp hl M]
theorem dark_ok {s : D} {ps : List Fo} (h : IsSeq s (ps.map Fo.d)) (hx : x ∈ NL) (hp : ∀ p ∈ ps, p.ok) (hl : ps.length ≤ 500) : Calc (callN T (n + 6)) "dark_shadow" [s, .str x] (.tup ((castL x true ps).map Fo.d)) := by
  refine own_call (fn := f_dark_shadow) (by kernel_rfl) rfl rfl ?_ fun M => ⟨[], ?_⟩
  · show D.pures _ = true
    generalize castL x true ps = l
    induction l with
    | nil => rfl
    | cons p r ih => show (D.pure (fmD p.c p.f) && D.pures (r.map Fo.d)) = true; rw [ih, fm_pure]; rfl
  rw [List.append_nil]
  simp [f_dark_shadow, checked_question_ok (n := n) h hx M, cast_ok (n := n + 1) (dark := true) h hx hp hl M]
end K21T
end Z


/-! K21Q: least and greatest worths. -/
namespace Z
namespace K21T
open PySem L2
variable {n : Nat} {x : Str} {G : Str → Int}
def oD : Option Int → D
  | none => .non
  | some i => .int i
/-- what a form is worth without an unknown -/
def rsv (x : Str) (G : Str → Int) (p : Fo) : Int := wv p.c p.f G - p.f x * G x
def loF (x : Str) (G : Str → Int) (o : Option Int) (p : Fo) : Option Int := if 0 < p.f x then some (match o with
  | none => -(rsv x G p / p.f x)
  | some l => if l < -(rsv x G p / p.f x) then -(rsv x G p / p.f x) else l) else o
def hiF (x : Str) (G : Str → Int) (o : Option Int) (p : Fo) : Option Int := if p.f x < 0 then some (match o with
  | none => rsv x G p / -(p.f x)
  | some h => if rsv x G p / -(p.f x) < h then rsv x G p / -(p.f x) else h) else o
theorem div_ok {j : Int} {b : Nat} (h0 : 0 < j) (h : j.natAbs < 2 ^ b) (hb : b ≤ 8000) : divOk j = true := by
  refine decide_eq_true ⟨h0, ?_⟩
  by_cases e : j.natAbs = 0
  · rw [e]; decide
  · exact Nat.lt_of_lt_of_le ((Nat.log2_lt e).mpr h) (by omega)
theorem bounds_loop {M : Sto} {a : Nat} {kvs : List (Key × D)} {p0 : Option D} (hx : x ∈ NL) (hM : M[a]? = some (.dct kvs)) (hW : WK kvs G) (hG : ∀ m ∈ NL, (G m).natAbs < 2 ^ 100) : ∀ (ps : List Fo) (lo hi : Option Int) (x3 x6 x7 : Option D), (∀ p ∈ ps, p.ok) →
    ∃ y3 y6 y7, forGo (.n 3) (fun env M => evSs (callN T (n + 1)) f_bounds_of_b0 env M) (ps.map Fo.d) [p0, some (.str x), some (.loc a), x3, some (oD lo), some (oD hi), x6, x7] M =
      .ok (.nx [p0, some (.str x), some (.loc a), y3, some (oD (ps.foldl (loF x G) lo)), some (oD (ps.foldl (hiF x G) hi)), y6, y7]) M
  | [], lo, hi, x3, x6, x7, _ => ⟨x3, x6, x7, rfl⟩
  | p :: ps, lo, hi, x3, x6, x7, hp => by
    have ho := hp p List.mem_cons_self
    obtain ⟨y3, y6, y7, e⟩ := bounds_loop (M := M) (p0 := p0) hx hM hW hG ps (loF x G lo p) (hiF x G hi p) (some p.d) (some (.int (p.f x))) (some (.int (rsv x G p))) fun q hq => hp q (List.mem_cons_of_mem _ hq)
    refine ⟨y3, y6, y7, ?_⟩
    have k1 := factor_in_ok (n := n) (c := p.c) (f := p.f) hx M
    have k2 := worth_of_gen (n := n) (c := p.c) (f := p.f) hM hW fun m hm => mul1 (ho.f m hm) (by decide) (hG m hm) (by decide)
    have k3 := md_get (d := .int 0) (x := x) hM
    rw [hW x hx] at k3
    have k4 := kd_get hM
    have k5 := bn_mul (M := M) (mul1 (ho.f x hx) (by decide) (hG x hx) (by decide))
    have b1 : evSs (callN T (n + 1)) f_bounds_of_b0 [p0, some (.str x), some (.loc a), some p.d, some (oD lo), some (oD hi), x6, x7] M = .ok (.nx [p0, some (.str x), some (.loc a), some p.d, some (oD (loF x G lo p)), some (oD (hiF x G hi p)), some (.int (p.f x)), some (.int (rsv x G p))]) M := by
      rcases Int.lt_trichotomy (p.f x) 0 with hf | hf | hf
      · have n1 : ¬ 0 < p.f x := by omega
        have k6 := bn_div (M := M) (i := rsv x G p) (j := -(p.f x)) (div_ok (by omega) (neg_lt (ho.f x hx)) (by decide))
        unfold rsv at k6 ⊢
        cases hi with
        | none =>
          simp [f_bounds_of_b0, Fo.d, k1, k2, k3, k4, k5, n1, hf, oD, k6, loF, hiF, rsv]
        | some h =>
          have k7 : ∀ i j : Int, biD .min false [.int i, .int j] M = .ok (.int (if j < i then j else i)) M := fun _ _ => rfl
          simp [f_bounds_of_b0, Fo.d, k1, k2, k3, k4, k5, n1, hf, oD, k6, k7, loF, hiF, rsv]
          try (by_cases q : h < -((wv p.c p.f G - p.f x * G x) / p.f x) <;> simp only [q, if_true, if_false])
      · have n1 : ¬ 0 < p.f x := by omega
        have n2 : ¬ p.f x < 0 := by omega
        simp [f_bounds_of_b0, Fo.d, k1, k2, k3, k4, k5, n1, n2, loF, hiF, rsv]
      · have n1 : ¬ p.f x < 0 := by omega
        have k6 := bn_div (M := M) (i := rsv x G p) (j := p.f x) (div_ok (by omega) (ho.f x hx) (by decide))
        unfold rsv at k6 ⊢
        cases lo with
        | none =>
          simp [f_bounds_of_b0, Fo.d, k1, k2, k3, k4, k5, n1, hf, oD, k6, loF, hiF, rsv]
        | some h =>
          have k7 : ∀ i j : Int, biD .max false [.int i, .int j] M = .ok (.int (if i < j then j else i)) M := fun _ _ => rfl
          simp [f_bounds_of_b0, Fo.d, k1, k2, k3, k4, k5, n1, hf, oD, k6, k7, loF, hiF, rsv]
          try (by_cases q : h < -((wv p.c p.f G - p.f x * G x) / p.f x) <;> simp only [q, if_true, if_false])
    rw [List.map_cons]
    unfold forGo
    rw [show asgD (.n 3) p.d [p0, some (.str x), some (.loc a), x3, some (oD lo), some (oD hi), x6, x7] = some [p0, some (.str x), some (.loc a), some p.d, some (oD lo), some (oD hi), x6, x7] from rfl]
    dsimp only
    rw [b1]
    dsimp only
    rw [e]
    rfl
theorem bounds_ok {s : D} {ps : List Fo} {M : Sto} {a : Nat} {kvs : List (Key × D)} (h : IsSeq s (ps.map Fo.d)) (hx : x ∈ NL) (hM : M[a]? = some (.dct kvs)) (hW : WK kvs G) (hG : ∀ m ∈ NL, (G m).natAbs < 2 ^ 100) (hp : ∀ p ∈ ps, p.ok) :
    callN T (n + 2) "bounds_of" [s, .str x, .loc a] M = .ok (.tup [oD (ps.foldl (loF x G) none), oD (ps.foldl (hiF x G) none)]) M := by
  obtain ⟨y3, y6, y7, e⟩ := bounds_loop (n := n) (M := M) (p0 := some s) hx hM hW hG ps none none none none none hp
  refine own_callM (fn := f_bounds_of) (by kernel_rfl) rfl rfl ?_ ⟨[], ?_⟩
  · generalize ps.foldl (loF x G) none = o
    generalize ps.foldl (hiF x G) none = q
    cases o <;> cases q <;> rfl
  · rw [List.append_nil]
    simp only [show oD none = D.non from rfl] at e
    simp [f_bounds_of, h.walk]
    rw [e]
    simp
def crossB (lo hi : Option Int) : Bool := match lo, hi with
  | some l, some h => decide (h < l)
  | _, _ => false
def spD : Option (Option Int × Option Int) → D
  | none => .non
  | some (a, b) => .tup [oD a, oD b]
def spanV (x : Str) (G : Str → Int) (ps : List Fo) : Option (Option Int × Option Int) :=
  if ((restL x ps).any fun p => decide (wv p.c p.f G < 0)) = true then none else
  if crossB (ps.foldl (loF x G) none) (ps.foldl (hiF x G) none) = true then none else some (ps.foldl (loF x G) none, ps.foldl (hiF x G) none)
theorem sp_pure {o : Option (Option Int × Option Int)} : (spD o).pure = true := by
  cases o with
  | none => rfl
  | some p =>
    obtain ⟨a, b⟩ := p
    cases a <;> cases b <;> rfl
theorem cross_ev {C : Calls} {env : En} {M : Sto} {i j : Nat} {lo hi : Option Int} (h1 : env[i]? = some (some (oD lo))) (h2 : env[j]? = some (some (oD hi))) : evE C (.boo true (.cons (.isN true (.var i)) (.cons (.isN true (.var j)) (.cons (.cmp .gt (.var i) (.var j)) .nil)))) env M = .ok (.bl (crossB lo hi)) M := by
  cases lo <;> cases hi <;> simp [h1, h2, oD, crossB]
theorem between_ok {s : D} {ps : List Fo} {S : Str → Bool} {g : Str → Int} (h : IsSeq s (ps.map Fo.d)) (hx : x ∈ NL) (hG : ∀ m ∈ NL, (gW S g m).natAbs < 2 ^ 100) (hp : ∀ p ∈ ps, p.ok) (hl : ps.length ≤ 1000) : Calc (callN T (n + 6)) "between" [s, .str x, wtD S g] (spD (spanV x (gW S g) ps)) := by
  refine own_call (fn := f_between) (by kernel_rfl) rfl rfl sp_pure fun M => ⟨[.dct (wd (NL.filter S) g)], ?_⟩
  have k1 := checked_question_ok (n := n) h hx M
  have k2 := checked_worths_ok (n := n + 2) (k := 2) (S := S) (g := g) M
  have k3 := dict_wt (S := S) (g := g) (m := false) (M := M)
  have hM := at_last (M := M) (o := .dct (wd (NL.filter S) g))
  have k4 := sides_ok (n := n + 3) h hx hl (M ++ [.dct (wd (NL.filter S) g)])
  have k5 := bounds_ok (n := n + 3) h hx hM wd_WK hG hp
  have k6 : ∀ env : En, env.length = 7 → env[3]? = some (some (.loc M.length)) → compGo (.n 6) (fun _ M => .ok true M) (fun env M => evE (callN T (n + 5)) f_between_c0 env M) env ((restL x ps).map Fo.d) (M ++ [.dct (wd (NL.filter S) g)]) = .ok ((restL x ps).map fun p => D.bl (decide (wv p.c p.f (gW S g) < 0))) (M ++ [.dct (wd (NL.filter S) g)]) := by
    intro env he h3
    rw [comp_pure (p := fun _ => true) (q := fun d => (match callN T (n + 5) "worth_of" [d, .loc M.length] (M ++ [.dct (wd (NL.filter S) g)]) with | .ok (.int i) _ => D.bl (decide (i < 0)) | _ => D.non)) fun d hd => ?_]
    · rw [List.filter_eq_self.mpr (fun _ _ => rfl), List.map_map]
      congr 1
      apply List.map_congr_left
      intro p hp1
      have k := worth_of_gen (n := n + 4) (c := p.c) (f := p.f) hM wd_WK fun m hm => mul1 ((hp p (List.mem_filter.mp hp1).1).f m hm) (by decide) (hG m hm) (by decide)
      show (match callN T (n + 5) "worth_of" [fmD p.c p.f, .loc M.length] (M ++ [.dct (wd (NL.filter S) g)]) with | .ok (.int i) _ => D.bl (decide (i < 0)) | _ => D.non) = _
      rw [k]
    · obtain ⟨p, hp1, rfl⟩ := List.mem_map.mp hd
      have k := worth_of_gen (n := n + 4) (c := p.c) (f := p.f) hM wd_WK fun m hm => mul1 ((hp p (List.mem_filter.mp hp1).1).f m hm) (by decide) (hG m hm) (by decide)
      have e1 : (env.set 6 (some p.d))[6]? = some (some p.d) := List.getElem?_set_self (by omega)
      have e2 : (env.set 6 (some p.d))[3]? = some (some (.loc M.length)) := by rw [List.getElem?_set_ne (by decide)]; exact h3
      refine ⟨_, rfl, rfl, fun _ => ?_⟩
      simp only [Fo.d] at e1 e2 ⊢
      simp [f_between_c0, e1, e2, k]
  have k7 := bools_any (M := M ++ [.dct (wd (NL.filter S) g)]) (f := fun p : Fo => decide (wv p.c p.f (gW S g) < 0)) (l := restL x ps)
  have s1 : evS (callN T (n + 5)) (.ex (.call "checked_question" (.cons (.var 0) (.cons (.var 1) .nil)))) [some s, some (.str x), some (wtD S g), none, none, none, none] M = .ok (.nx [some s, some (.str x), some (wtD S g), none, none, none, none]) M := by simp [k1]
  have s2 : evS (callN T (n + 5)) (.ex (.call "checked_worths" (.cons (.var 2) (.cons (.cst (.int 2)) .nil)))) [some s, some (.str x), some (wtD S g), none, none, none, none] M = .ok (.nx [some s, some (.str x), some (wtD S g), none, none, none, none]) M := by simp [k2]
  have s3 : evS (callN T (n + 5)) (.asg (.n 3) (.bi .dict false (.cons (.var 2) .nil))) [some s, some (.str x), some (wtD S g), none, none, none, none] M = .ok (.nx [some s, some (.str x), some (wtD S g), some (.loc M.length), none, none, none]) (M ++ [.dct (wd (NL.filter S) g)]) := by simp [k3]
  unfold f_between
  dsimp only
  rw [show ([s, D.str x, wtD S g].map some ++ List.replicate (7 - 3) none) = [some s, some (.str x), some (wtD S g), none, none, none, none] from rfl, stepS s1, stepS s2, stepS s3]
  have s4 : ∀ r, ((restL x ps).any fun p => decide (wv p.c p.f (gW S g) < 0)) = r → evE (callN T (n + 5)) (.bi .any false (.cons (.comp false f_between_c0 (.n 6) (.sq (.idx (.call "sides" (.cons (.var 0) (.cons (.var 1) .nil))) (.cst (.int 0)))) .non [6]) .nil)) [some s, some (.str x), some (wtD S g), some (.loc M.length), none, none, none] (M ++ [.dct (wd (NL.filter S) g)]) = .ok (.bl r) (M ++ [.dct (wd (NL.filter S) g)]) := by
    rintro r rfl
    simp [k4]
    rw [k6 _ rfl rfl]
    simp [k7]
  cases hr : (restL x ps).any fun p => decide (wv p.c p.f (gW S g) < 0) with
  | true =>
    rw [es_cons, es_iff, s4 _ hr]
    simp [spanV, hr, spD]
  | false =>
    have s5 : evS (callN T (n + 5)) (.iff (.bi .any false (.cons (.comp false f_between_c0 (.n 6) (.sq (.idx (.call "sides" (.cons (.var 0) (.cons (.var 1) .nil))) (.cst (.int 0)))) .non [6]) .nil)) (.cons (.ret (.som (.cst .non))) .nil) .nil) [some s, some (.str x), some (wtD S g), some (.loc M.length), none, none, none] (M ++ [.dct (wd (NL.filter S) g)]) = .ok (.nx [some s, some (.str x), some (wtD S g), some (.loc M.length), none, none, none]) (M ++ [.dct (wd (NL.filter S) g)]) := by
      rw [es_iff, s4 _ hr]
      rfl
    rw [stepS s5]
    have s6 : evS (callN T (n + 5)) (.asg (.t [4, 5]) (.call "bounds_of" (.cons (.var 0) (.cons (.var 1) (.cons (.var 3) .nil))))) [some s, some (.str x), some (wtD S g), some (.loc M.length), none, none, none] (M ++ [.dct (wd (NL.filter S) g)]) = .ok (.nx [some s, some (.str x), some (wtD S g), some (.loc M.length), some (oD (ps.foldl (loF x (gW S g)) none)), some (oD (ps.foldl (hiF x (gW S g)) none)), none]) (M ++ [.dct (wd (NL.filter S) g)]) := by simp [k5]
    rw [stepS s6]
    refine stepR ?_
    rw [ev_ite, cross_ev rfl rfl]
    cases hc : crossB (ps.foldl (loF x (gW S g)) none) (ps.foldl (hiF x (gW S g)) none) with
    | true => simp [spanV, hr, hc, spD]
    | false => simp [spanV, hr, hc, spD]
end K21T
end Z


/-! K21R: the law's own shadow and span; how they hang together. -/
namespace Z
namespace K21T
open PySem L2
variable {n : Nat} {x : Str} {G : Str → Int}
/-! ### numbers -/
theorem ceil_eq {f r : Int} (hf : 0 < f) : (f - 1 - r) / f = -(r / f) := by
  have h1 := Int.mul_ediv_add_emod r f
  have h2 := Int.emod_nonneg r (show f ≠ 0 by omega)
  have h3 := Int.emod_lt_of_pos r hf
  have e : f * -(r / f) = -(f * (r / f)) := Int.mul_neg _ _
  exact ((Int.ediv_emod_unique hf).mpr ⟨by rw [e]; omega, show 0 ≤ f - 1 - r % f by omega, by omega⟩).1
theorem low_iff {f r l : Int} (hf : 0 < f) : l * f + r < 0 ↔ l < -(r / f) := by
  have h := Int.ediv_lt_iff_lt_mul (a := r) (b := -l) hf
  rw [Int.neg_mul] at h
  omega
theorem high_iff {f r h : Int} (hf : f < 0) : h * f + r < 0 ↔ r / -f < h := by
  have k := Int.ediv_lt_iff_lt_mul (a := r) (b := h) (c := -f) (by omega)
  rw [Int.mul_neg] at k
  omega
theorem lo_fold : ∀ (ps : List Fo) (o : Option Int), (ps.foldl (loF x G) o = none → o = none ∧ ∀ p ∈ ps, ¬ 0 < p.f x) ∧ ∀ L, ps.foldl (loF x G) o = some L →
    (o = some L ∨ ∃ p ∈ ps, 0 < p.f x ∧ L = -(rsv x G p / p.f x)) ∧ (∀ p ∈ ps, 0 < p.f x → -(rsv x G p / p.f x) ≤ L) ∧ ∀ l, o = some l → l ≤ L
  | [], o => ⟨fun h => ⟨h, fun _ h => nomatch h⟩, fun L h => ⟨.inl h, (fun _ h => nomatch h), fun l e => by rw [List.foldl_nil, e] at h; cases h; exact Int.le_refl _⟩⟩
  | p :: r, o => by
    obtain ⟨h1, h2⟩ := lo_fold r (loF x G o p)
    rw [List.foldl_cons]
    by_cases hf : 0 < p.f x
    · obtain ⟨v, e, h3, h4, h5⟩ : ∃ v, loF x G o p = some v ∧ -(rsv x G p / p.f x) ≤ v ∧ (∀ l, o = some l → l ≤ v) ∧ (o = some v ∨ v = -(rsv x G p / p.f x)) := by
        unfold loF
        rw [if_pos hf]
        cases o with
        | none => exact ⟨_, rfl, Int.le_refl _, (fun _ h => nomatch h), .inr rfl⟩
        | some l =>
          dsimp only
          by_cases hl : l < -(rsv x G p / p.f x)
          · rw [if_pos hl]
            exact ⟨_, rfl, Int.le_refl _, fun l' e => by cases e; omega, .inr rfl⟩
          · rw [if_neg hl]
            exact ⟨_, rfl, by omega, fun l' e => by cases e; omega, .inl rfl⟩
      rw [e] at h1 h2 ⊢
      refine ⟨fun h => (nomatch (h1 h).1), fun L hL => ?_⟩
      obtain ⟨g1, g2, g3⟩ := h2 L hL
      have g4 := g3 v rfl
      refine ⟨?_, fun q hq hqf => ?_, fun l el => Int.le_trans (h4 l el) g4⟩
      · rcases g1 with g1 | ⟨q, hq, hqf, hqL⟩
        · cases g1
          rcases h5 with h5 | h5
          · exact .inl h5
          · exact .inr ⟨p, List.mem_cons_self, hf, h5⟩
        · exact .inr ⟨q, List.mem_cons_of_mem _ hq, hqf, hqL⟩
      · rcases List.mem_cons.mp hq with rfl | hq
        · exact Int.le_trans h3 g4
        · exact g2 q hq hqf
    · have e : loF x G o p = o := if_neg hf
      rw [e] at h1 h2 ⊢
      refine ⟨fun h => ⟨(h1 h).1, fun q hq => ?_⟩, fun L hL => ?_⟩
      · rcases List.mem_cons.mp hq with rfl | hq
        · exact hf
        · exact (h1 h).2 q hq
      · obtain ⟨g1, g2, g3⟩ := h2 L hL
        refine ⟨?_, fun q hq hqf => ?_, g3⟩
        · rcases g1 with g1 | ⟨q, hq, hqf, hqL⟩
          · exact .inl g1
          · exact .inr ⟨q, List.mem_cons_of_mem _ hq, hqf, hqL⟩
        · rcases List.mem_cons.mp hq with rfl | hq
          · exact absurd hqf hf
          · exact g2 q hq hqf
theorem hi_fold : ∀ (ps : List Fo) (o : Option Int), (ps.foldl (hiF x G) o = none → o = none ∧ ∀ p ∈ ps, ¬ p.f x < 0) ∧ ∀ L, ps.foldl (hiF x G) o = some L →
    (o = some L ∨ ∃ p ∈ ps, p.f x < 0 ∧ L = rsv x G p / -(p.f x)) ∧ (∀ p ∈ ps, p.f x < 0 → L ≤ rsv x G p / -(p.f x)) ∧ ∀ l, o = some l → L ≤ l
  | [], o => ⟨fun h => ⟨h, fun _ h => nomatch h⟩, fun L h => ⟨.inl h, (fun _ h => nomatch h), fun l e => by rw [List.foldl_nil, e] at h; cases h; exact Int.le_refl _⟩⟩
  | p :: r, o => by
    obtain ⟨h1, h2⟩ := hi_fold r (hiF x G o p)
    rw [List.foldl_cons]
    by_cases hf : p.f x < 0
    · obtain ⟨v, e, h3, h4, h5⟩ : ∃ v, hiF x G o p = some v ∧ v ≤ rsv x G p / -(p.f x) ∧ (∀ l, o = some l → v ≤ l) ∧ (o = some v ∨ v = rsv x G p / -(p.f x)) := by
        unfold hiF
        rw [if_pos hf]
        cases o with
        | none => exact ⟨_, rfl, Int.le_refl _, (fun _ h => nomatch h), .inr rfl⟩
        | some l =>
          dsimp only
          by_cases hl : rsv x G p / -(p.f x) < l
          · rw [if_pos hl]
            exact ⟨_, rfl, Int.le_refl _, fun l' e => by cases e; omega, .inr rfl⟩
          · rw [if_neg hl]
            exact ⟨_, rfl, by omega, fun l' e => by cases e; omega, .inl rfl⟩
      rw [e] at h1 h2 ⊢
      refine ⟨fun h => (nomatch (h1 h).1), fun L hL => ?_⟩
      obtain ⟨g1, g2, g3⟩ := h2 L hL
      have g4 := g3 v rfl
      refine ⟨?_, fun q hq hqf => ?_, fun l el => Int.le_trans g4 (h4 l el)⟩
      · rcases g1 with g1 | ⟨q, hq, hqf, hqL⟩
        · cases g1
          rcases h5 with h5 | h5
          · exact .inl h5
          · exact .inr ⟨p, List.mem_cons_self, hf, h5⟩
        · exact .inr ⟨q, List.mem_cons_of_mem _ hq, hqf, hqL⟩
      · rcases List.mem_cons.mp hq with rfl | hq
        · exact Int.le_trans g4 h3
        · exact g2 q hq hqf
    · have e : hiF x G o p = o := if_neg hf
      rw [e] at h1 h2 ⊢
      refine ⟨fun h => ⟨(h1 h).1, fun q hq => ?_⟩, fun L hL => ?_⟩
      · rcases List.mem_cons.mp hq with rfl | hq
        · exact hf
        · exact (h1 h).2 q hq
      · obtain ⟨g1, g2, g3⟩ := h2 L hL
        refine ⟨?_, fun q hq hqf => ?_, g3⟩
        · rcases g1 with g1 | ⟨q, hq, hqf, hqL⟩
          · exact .inl g1
          · exact .inr ⟨q, List.mem_cons_of_mem _ hq, hqf, hqL⟩
        · rcases List.mem_cons.mp hq with rfl | hq
          · exact absurd hqf hf
          · exact g2 q hq hqf
/-! ### shadows -/
theorem wv_zero : wv 0 (fun _ => 0) G = 0 := by
  unfold wv
  have e : ∀ l : List Str, (l.map fun n => (0 : Int) * G n).sum = 0 := by
    intro l
    induction l with
    | nil => rfl
    | cons y r ih => rw [List.map_cons, List.sum_cons, ih]; omega
  rw [e]
  rfl
theorem wv_sum : ∀ ts : List Term, wv (sumC ts) (sumF ts) G = (ts.map fun t => wv t.c t.f G * t.a).sum
  | [] => wv_zero
  | t :: r => by
    rw [List.map_cons, List.sum_cons, ← wv_sum r]
    have e1 : sumC (t :: r) = t.c * t.a + sumC r := by simp [sumC]
    have e2 : sumF (t :: r) = fun n => t.f n * t.a + sumF r n := by funext n; simp [sumF]
    rw [e1, e2]
    unfold wv
    have e3 : (NL.map fun n => (t.f n * t.a + sumF r n) * G n).sum = (NL.map fun n => t.f n * G n).sum * t.a + (NL.map fun n => sumF r n * G n).sum := by
      rw [← sum_mul (fun n => t.f n * G n) t.a NL, ← sum_add]
      apply sum_congr
      intro n _
      show (t.f n * t.a + sumF r n) * G n = t.f n * G n * t.a + sumF r n * G n
      rw [Int.add_mul, Int.mul_assoc, Int.mul_comm t.a, ← Int.mul_assoc]
    rw [e3, Int.add_mul]
    omega
theorem wv_const {c : Int} : wv c (fun _ => 0) G = c := by
  have h := wv_zero (G := G)
  unfold wv at h ⊢
  omega
theorem cr_worth {dark : Bool} {l h : Fo} : wv (crF x dark l h).c (crF x dark l h).f G = rsv x G l * -(h.f x) + rsv x G h * l.f x - gapD dark (l.f x) (-(h.f x)) := by
  unfold crF
  dsimp only
  rw [wv_sum]
  simp only [crT, List.map_cons, List.map_nil, List.sum_cons, List.sum_nil, wv_const]
  unfold rsv
  rw [Int.sub_mul, Int.sub_mul, Int.mul_neg, Int.mul_neg]
  have e : l.f x * G x * h.f x = h.f x * G x * l.f x := by rw [Int.mul_comm (l.f x * G x), ← Int.mul_assoc, Int.mul_right_comm (h.f x) (l.f x), ]
  omega
theorem rest_rsv {p : Fo} (h : p.f x = 0) : rsv x G p = wv p.c p.f G := by unfold rsv; rw [h]; omega
theorem bright_ok {ps : List Fo} (h : spanV x G ps ≠ none) : ∀ p ∈ castL x false ps, 0 ≤ wv p.c p.f G := by
  unfold spanV at h
  split at h
  · exact absurd rfl h
  rename_i hr
  split at h
  · exact absurd rfl h
  rename_i hc
  intro p hp
  unfold castL at hp
  rcases List.mem_append.mp hp with hp | hp
  · by_cases e : wv p.c p.f G < 0
    · exact absurd (List.any_eq_true.mpr ⟨p, hp, decide_eq_true e⟩) hr
    · omega
  · obtain ⟨l, hl, hp⟩ := List.mem_flatMap.mp hp
    obtain ⟨q, hq, rfl⟩ := List.mem_map.mp hp
    obtain ⟨l1, l2⟩ := List.mem_filter.mp hl
    obtain ⟨q1, q2⟩ := List.mem_filter.mp hq
    have l2 := of_decide_eq_true l2
    have q2 := of_decide_eq_true q2
    obtain ⟨a1, a2⟩ := lo_fold (x := x) (G := G) ps none
    obtain ⟨b1, b2⟩ := hi_fold (x := x) (G := G) ps none
    cases hL : ps.foldl (loF x G) none with
    | none => exact absurd l2 ((a1 hL).2 l l1)
    | some L =>
      cases hH : ps.foldl (hiF x G) none with
      | none => exact absurd q2 ((b1 hH).2 q q1)
      | some H =>
        rw [hL, hH] at hc
        have hc : ¬ H < L := by simpa [crossB] using hc
        have c1 := (a2 L hL).2.1 l l1 l2
        have c2 := (b2 H hH).2.1 q q1 q2
        have d1 : ¬ (L * l.f x + rsv x G l < 0) := fun z => by have := (low_iff l2).mp z; omega
        have d2 : ¬ (L * q.f x + rsv x G q < 0) := fun z => by have := (high_iff q2).mp z; omega
        rw [cr_worth]
        have g : gapD false (l.f x) (-(q.f x)) = 0 := rfl
        rw [g]
        have e1 : (L * l.f x + rsv x G l) * -(q.f x) + (L * q.f x + rsv x G q) * l.f x = rsv x G l * -(q.f x) + rsv x G q * l.f x := by
          rw [Int.add_mul, Int.add_mul, Int.mul_neg, Int.mul_right_comm L (l.f x)]
          omega
        have e2 : 0 ≤ (L * l.f x + rsv x G l) * -(q.f x) := Int.mul_nonneg (by omega) (by omega)
        have e3 : 0 ≤ (L * q.f x + rsv x G q) * l.f x := Int.mul_nonneg (by omega) (by omega)
        omega
theorem dark_neg {ps : List Fo} (h : spanV x G ps = none) : ∃ p ∈ castL x true ps, wv p.c p.f G < 0 := by
  unfold spanV at h
  split at h
  · rename_i hr
    obtain ⟨p, hp, e⟩ := List.any_eq_true.mp hr
    exact ⟨p, List.mem_append_left _ hp, of_decide_eq_true e⟩
  split at h
  · rename_i hc
    obtain ⟨a1, a2⟩ := lo_fold (x := x) (G := G) ps none
    obtain ⟨b1, b2⟩ := hi_fold (x := x) (G := G) ps none
    cases hL : ps.foldl (loF x G) none with
    | none => rw [hL] at hc; cases hc
    | some L =>
      cases hH : ps.foldl (hiF x G) none with
      | none => rw [hL, hH] at hc; cases hc
      | some H =>
        rw [hL, hH] at hc
        have hc : H < L := by simpa [crossB] using hc
        obtain ⟨l, l1, l2, l3⟩ : ∃ p ∈ ps, 0 < p.f x ∧ L = -(rsv x G p / p.f x) := by
          rcases (a2 L hL).1 with e | e
          · cases e
          · exact e
        obtain ⟨q, q1, q2, q3⟩ : ∃ p ∈ ps, p.f x < 0 ∧ H = rsv x G p / -(p.f x) := by
          rcases (b2 H hH).1 with e | e
          · cases e
          · exact e
        refine ⟨crF x true l q, List.mem_append_right _ (List.mem_flatMap.mpr ⟨l, List.mem_filter.mpr ⟨l1, decide_eq_true l2⟩, List.mem_map.mpr ⟨q, List.mem_filter.mpr ⟨q1, decide_eq_true q2⟩, rfl⟩⟩), ?_⟩
        rw [cr_worth]
        have g : gapD true (l.f x) (-(q.f x)) = (l.f x - 1) * (-(q.f x) - 1) := rfl
        rw [g]
        generalize l.f x = o at *
        generalize hu : -(q.f x) = u at *
        have u0 : 0 < u := by omega
        generalize rsv x G l = rl at *
        generalize rsv x G q = rq at *
        have d1 : rl < (1 - L) * o := (Int.ediv_lt_iff_lt_mul l2).mp (by omega)
        have d2 : rq < (H + 1) * u := (Int.ediv_lt_iff_lt_mul u0).mp (by omega)
        have e1 : (rl + 1) * u ≤ (1 - L) * o * u := Int.mul_le_mul_of_nonneg_right (by omega) (by omega)
        have e2 : (rq + 1) * o ≤ (H + 1) * u * o := Int.mul_le_mul_of_nonneg_right (by omega) (by omega)
        have e3 : (1 - L) * o * u + (H + 1) * u * o = (2 + H - L) * (o * u) := by
          rw [Int.mul_assoc, Int.mul_assoc, Int.mul_comm u o, ← Int.add_mul]
          congr 1
          omega
        have e4 : (2 + H - L) * (o * u) ≤ 1 * (o * u) := Int.mul_le_mul_of_nonneg_right (by omega) (Int.mul_nonneg (by omega) (by omega))
        have e5 : (o - 1) * (u - 1) = o * u - o - u + 1 := by
          rw [Int.sub_mul, Int.mul_sub]
          omega
        rw [Int.add_mul] at e1 e2
        omega
  · cases h
end K21T
end Z


/-! K21V: the law's own shadow and span are the program's. -/
namespace Z
namespace K21T
open PySem L2
variable {n : Nat} {x : Str} {G : Str → Int}
theorem law_worth_is {ds : List D} {M : Sto} : callN T (n + 1) "_law_worth" ds M = callN T (n + 1) "worth_of" ds M := by
  rw [callN_s (fn := f_law_worth) (by kernel_rfl), callN_s (fn := f_worth_of) (by kernel_rfl)]
  rfl
theorem dict_row {l : List Str} {g : Str → Int} {m : Bool} {M : Sto} (nd : l.Nodup) : biD .dict m [.tup (prsD l g)] M = .ok (.loc M.length) (M ++ [.dct (wd l g)]) := by
  rw [bd_dict (pairs_prs _), fold_wd _ _ nd (fun _ _ h => by simp at h)]
  rfl
theorem dict_lst {l : List Str} {g : Str → Int} {m : Bool} {M : Sto} (nd : l.Nodup) : biD .dict m [.lst (prsD l g)] M = .ok (.loc M.length) (M ++ [.dct (wd l g)]) := by
  have e := fold_wd (g := g) l [] nd (fun _ _ h => by simp at h)
  simp only [biD, asSeq, pairs_prs, ofO_some, bind_ok, e]
  rfl
section
variable {P : Sto} {f : Str → Int}
theorem row_get (hx : x ∈ NL) : mthD .get (.loc P.length) [.str x, .int 0] (P ++ [.dct (wd (rowL f) f)]) = .ok (.int (f x)) (P ++ [.dct (wd (rowL f) f)]) := by
  rw [md_get at_last, getK_wd]
  by_cases h : x ∈ rowL f
  · rw [if_pos h]; rfl
  · rw [if_neg h]
    have : f x = 0 := by
      by_cases h0 : f x = 0
      · exact h0
      · exact absurd ((row_mem hx).mpr h0) h
    rw [this]; rfl
theorem row_in (hx : x ∈ NL) : inD (P ++ [.dct (wd (rowL f) f)]) (.str x) (.loc P.length) = some (decide (f x ≠ 0)) := by
  rw [in_dct at_last, any_wd]
  congr 1
  by_cases h : x ∈ rowL f
  · rw [decide_eq_true h, decide_eq_true ((row_mem hx).mp h)]
  · rw [decide_eq_false h, decide_eq_false fun z => h ((row_mem hx).mpr z)]
theorem row_idx (hx : x ∈ NL) (h : f x ≠ 0) : idxD (P ++ [.dct (wd (rowL f) f)]) (.loc P.length) (.str x) = some (.int (f x)) := by
  rw [ix_dct at_last, getK_wd, if_pos ((row_mem hx).mpr h)]
end
section
variable {P Y : Sto} {u v w : MO}
theorem mid_at : (P ++ u :: Y)[P.length]? = some u := by simp
theorem mid_set : (P ++ u :: Y).set P.length w = P ++ w :: Y := by simp
theorem mid_app : (P ++ u :: Y) ++ [v] = P ++ u :: (Y ++ [v]) := by simp
end
/-! ### the shadow -/
theorem cast_inner {dark : Bool} {l : Fo} {P : Sto} {p0 p4 p7 : Option D} (hx : x ∈ NL) (hl : l.ok) (hlx : l.f x ≠ 0) : ∀ (hs : List Fo) (fd : List D) (Y : Sto) (x6 x8 x9 x10 : Option D), (∀ h ∈ hs, h.ok ∧ h.f x ≠ 0) → fd.length + hs.length ≤ 1000000 →
    ∃ Y' y6 y8 y9 y10, forGo (.n 6) (fun env M => evSs (callN T (n + 1)) f_law_cast_b0 env M) (hs.map Fo.d) [p0, some (.str x), some (.bl dark), some (.loc P.length), p4, some l.d, x6, p7, x8, x9, x10] (P ++ .lst fd :: Y) =
      .ok (.nx [p0, some (.str x), some (.bl dark), some (.loc P.length), p4, some l.d, y6, p7, y8, y9, y10]) (P ++ .lst (fd ++ (hs.map fun h => (crF x dark l h).d)) :: (Y ++ Y'))
  | [], fd, Y, x6, x8, x9, x10, _, _ => ⟨[], x6, x8, x9, x10, by simp [forGo]⟩
  | h :: hs, fd, Y, x6, x8, x9, x10, hh, hz => by
    rw [List.length_cons] at hz
    obtain ⟨ho, hhx⟩ := hh h List.mem_cons_self
    have q1 := dict_row (m := false) (g := l.f) (M := P ++ .lst fd :: Y) (rowL_nd l.f)
    have q2 := row_idx (P := P ++ .lst fd :: Y) (f := l.f) hx hlx
    have q3 := dict_row (m := false) (g := h.f) (M := P ++ .lst fd :: Y ++ [.dct (wd (rowL l.f) l.f)]) (rowL_nd h.f)
    have q4 := row_idx (P := P ++ .lst fd :: Y ++ [.dct (wd (rowL l.f) l.f)]) (f := h.f) hx hhx
    obtain ⟨Y', y6, y8, y9, y10, e⟩ := cast_inner (dark := dark) (l := l) (P := P) (p0 := p0) (p4 := p4) (p7 := p7) hx hl hlx hs (fd ++ [(crF x dark l h).d]) (Y ++ [.dct (wd (rowL l.f) l.f), .dct (wd (rowL h.f) h.f)]) (some h.d) (some (.int (gapD dark (l.f x) (-(h.f x))))) (some (.int (l.f x))) (some (.int (-(h.f x)))) (fun q hq => hh q (List.mem_cons_of_mem _ hq)) (by simp; omega)
    have g : ∀ M, binD .mul (.int (l.f x - 1)) (.int (-(h.f x) - 1)) M = .ok (.int ((l.f x - 1) * (-(h.f x) - 1))) M := fun M => bn_mul (mul1 (b := 301) (abs_sub (hl.f x hx) (j := 1) (Nat.lt_of_lt_of_le (by decide : (1 : Int).natAbs < 2 ^ 1) (pow_le (by decide)))) (by decide) (c := 301) (abs_sub (neg_lt (ho.f x hx)) (j := 1) (Nat.lt_of_lt_of_le (by decide : (1 : Int).natAbs < 2 ^ 1) (pow_le (by decide)))) (by decide))
    have k3 := fun M => law_sum_ok (n := n) (crT_ok (dark := dark) hx hl ho) M
    have e3 : (crT x dark l h).map Term.d = [.tup [l.d, .int (-(h.f x))], .tup [h.d, .int (l.f x)], .tup [.tup [.int (-(gapD dark (l.f x) (-(h.f x)))), .tup []], .int 1]] := by
      rw [const_d]; rfl
    rw [e3] at k3
    have st : P ++ .lst fd :: Y ++ [.dct (wd (rowL l.f) l.f)] ++ [.dct (wd (rowL h.f) h.f)] = P ++ .lst fd :: (Y ++ [.dct (wd (rowL l.f) l.f), .dct (wd (rowL h.f) h.f)]) := by simp
    have ap := md_append (d := (crF x dark l h).d) (mid_at (P := P) (u := .lst fd) (Y := Y ++ [.dct (wd (rowL l.f) l.f), .dct (wd (rowL h.f) h.f)])) (by omega)
    rw [mid_set] at ap
    have kd := kd_append (mid_at (P := P) (u := .lst fd) (Y := Y ++ [.dct (wd (rowL l.f) l.f), .dct (wd (rowL h.f) h.f)]))
    have b1 : evSs (callN T (n + 1)) f_law_cast_b0 [p0, some (.str x), some (.bl dark), some (.loc P.length), p4, some l.d, some h.d, p7, x8, x9, x10] (P ++ .lst fd :: Y) = .ok (.nx [p0, some (.str x), some (.bl dark), some (.loc P.length), p4, some l.d, some h.d, p7, some (.int (gapD dark (l.f x) (-(h.f x)))), some (.int (l.f x)), some (.int (-(h.f x)))]) (P ++ .lst (fd ++ [(crF x dark l h).d]) :: (Y ++ [.dct (wd (rowL l.f) l.f), .dct (wd (rowL h.f) h.f)])) := by
      have s1 : evS (callN T (n + 1)) (.asg (.t [9, 10]) (.tup (.cons (.idx (.bi .dict false (.cons (.idx (.var 5) (.cst (.int 1))) .nil)) (.var 1)) (.cons (.neg (.idx (.bi .dict false (.cons (.idx (.var 6) (.cst (.int 1))) .nil)) (.var 1))) .nil)))) [p0, some (.str x), some (.bl dark), some (.loc P.length), p4, some l.d, some h.d, p7, x8, x9, x10] (P ++ .lst fd :: Y) = .ok (.nx [p0, some (.str x), some (.bl dark), some (.loc P.length), p4, some l.d, some h.d, p7, x8, some (.int (l.f x)), some (.int (-(h.f x)))]) (P ++ .lst fd :: (Y ++ [.dct (wd (rowL l.f) l.f), .dct (wd (rowL h.f) h.f)])) := by
        rw [← st]
        simp only [Fo.d, fmD] at q1 q2 q3 q4 ⊢
        simp [-List.append_assoc, -List.length_append, q1, q2, q3, q4]
      unfold f_law_cast_b0
      rw [stepS s1]
      simp only [Fo.d, crF] at k3 ap ⊢
      cases dark with
      | true =>
        simp only [gapD, if_true] at k3 ⊢
        simp [g, k3, kd, ap]
      | false =>
        simp only [gapD, Bool.false_eq_true, if_false, Int.neg_zero] at k3 ⊢
        simp [k3, kd, ap]
    refine ⟨[.dct (wd (rowL l.f) l.f), .dct (wd (rowL h.f) h.f)] ++ Y', y6, y8, y9, y10, ?_⟩
    rw [List.map_cons]
    unfold forGo
    rw [show asgD (.n 6) h.d [p0, some (.str x), some (.bl dark), some (.loc P.length), p4, some l.d, x6, p7, x8, x9, x10] = some [p0, some (.str x), some (.bl dark), some (.loc P.length), p4, some l.d, some h.d, p7, x8, x9, x10] from rfl]
    dsimp only
    rw [b1]
    dsimp only
    rw [e]
    simp
/-- the forms with a factor of a kind -/
theorem pick_comp {kx : E} {pr : Fo → Bool} {env : En} {M : Sto} {ps : List Fo} (he : env.length = 11) (h1 : env[1]? = some (some (.str x)))
    (hk : ∀ p ∈ ps, ∀ (env : En) X, env[7]? = some (some p.d) → env[1]? = some (some (.str x)) → evE (callN T (n + 1)) kx env X = .ok (.bl (pr p)) (X ++ [.dct (wd (rowL p.f) p.f)])) :
    ∃ X, compGo (.n 7) (fun env M => evC (callN T (n + 1)) (.som kx) env M) (fun env M => evE (callN T (n + 1)) (.var 7) env M) env (ps.map Fo.d) M = .ok ((ps.filter pr).map Fo.d) (M ++ X) :=
  comp_extA fun p hp X => by
    have e1 : (env.set 7 (some p.d))[7]? = some (some p.d) := List.getElem?_set_self (by omega)
    have e2 : (env.set 7 (some p.d))[1]? = some (some (.str x)) := by rw [List.getElem?_set_ne (by decide)]; exact h1
    refine ⟨_, [.dct (wd (rowL p.f) p.f)], rfl, ?_, fun _ => ⟨[], ?_⟩⟩
    · rw [ev_csom, hk p hp _ _ e1 e2]
      simp
    · simp [e1]
theorem cast_k0 (hx : x ∈ NL) {p : Fo} {env : En} {X : Sto} (h7 : env[7]? = some (some p.d)) (h1 : env[1]? = some (some (.str x))) : evE (callN T (n + 1)) f_law_cast_k0 env X = .ok (.bl (decide (p.f x = 0))) (X ++ [.dct (wd (rowL p.f) p.f)]) := by
  have q1 := dict_row (m := false) (g := p.f) (M := X) (rowL_nd p.f)
  have q2 := row_in (P := X) (f := p.f) hx
  simp only [Fo.d, fmD] at h7
  simp [f_law_cast_k0, h7, h1, q1, q2]
theorem cast_k1 (hx : x ∈ NL) {p : Fo} {env : En} {X : Sto} (h7 : env[7]? = some (some p.d)) (h1 : env[1]? = some (some (.str x))) : evE (callN T (n + 1)) f_law_cast_k1 env X = .ok (.bl (decide (0 < p.f x))) (X ++ [.dct (wd (rowL p.f) p.f)]) := by
  have q1 := dict_row (m := false) (g := p.f) (M := X) (rowL_nd p.f)
  have q2 := row_get (P := X) (f := p.f) hx
  have q3 := kd_get (at_last (M := X) (o := .dct (wd (rowL p.f) p.f)))
  simp only [Fo.d, fmD] at h7
  simp [f_law_cast_k1, h7, h1, q1, q2, q3]
theorem cast_k2 (hx : x ∈ NL) {p : Fo} {env : En} {X : Sto} (h7 : env[7]? = some (some p.d)) (h1 : env[1]? = some (some (.str x))) : evE (callN T (n + 1)) f_law_cast_k2 env X = .ok (.bl (decide (p.f x < 0))) (X ++ [.dct (wd (rowL p.f) p.f)]) := by
  have q1 := dict_row (m := false) (g := p.f) (M := X) (rowL_nd p.f)
  have q2 := row_get (P := X) (f := p.f) hx
  have q3 := kd_get (at_last (M := X) (o := .dct (wd (rowL p.f) p.f)))
  simp only [Fo.d, fmD] at h7
  simp [f_law_cast_k2, h7, h1, q1, q2, q3]
theorem cast_outer {dark : Bool} {P : Sto} {p4 : Option D} {ps : List Fo} (hx : x ∈ NL) (hp : ∀ p ∈ ps, p.ok) (hz : ps.length ≤ 500) : ∀ (ls : List Fo) (fd : List D) (Y : Sto) (x5 x6 x7 x8 x9 x10 : Option D), (∀ l ∈ ls, l.ok ∧ l.f x ≠ 0) → fd.length + ls.length * 500 ≤ 1000000 →
    ∃ Y' y5 y6 y7 y8 y9 y10, forGo (.n 5) (fun env M => evSs (callN T (n + 1)) f_law_cast_b1 env M) (ls.map Fo.d) [some (.lst (ps.map Fo.d)), some (.str x), some (.bl dark), some (.loc P.length), p4, x5, x6, x7, x8, x9, x10] (P ++ .lst fd :: Y) =
      .ok (.nx [some (.lst (ps.map Fo.d)), some (.str x), some (.bl dark), some (.loc P.length), p4, y5, y6, y7, y8, y9, y10]) (P ++ .lst (fd ++ ((ls.flatMap fun l => (highL x ps).map fun h => crF x dark l h).map Fo.d)) :: (Y ++ Y'))
  | [], fd, Y, x5, x6, x7, x8, x9, x10, _, _ => ⟨[], x5, x6, x7, x8, x9, x10, by simp [forGo]⟩
  | l :: ls, fd, Y, x5, x6, x7, x8, x9, x10, hl, hlen => by
    rw [List.length_cons] at hlen
    obtain ⟨ho, hlx⟩ := hl l List.mem_cons_self
    have l3 : (highL x ps).length ≤ 500 := Nat.le_trans (List.length_filter_le _ _) hz
    obtain ⟨X, ec⟩ := pick_comp (n := n) (kx := f_law_cast_k2) (pr := fun p => decide (p.f x < 0)) (env := [some (.lst (ps.map Fo.d)), some (.str x), some (.bl dark), some (.loc P.length), p4, some l.d, x6, none, x8, x9, x10]) (M := P ++ .lst fd :: Y) (ps := ps) rfl rfl fun p _ env X h7 h1 => cast_k2 hx h7 h1
    have st : P ++ .lst fd :: Y ++ X = P ++ .lst fd :: (Y ++ X) := by simp
    rw [st] at ec
    obtain ⟨Y1, y6, y8, y9, y10, e1⟩ := cast_inner (n := n) (dark := dark) (l := l) (P := P) (p0 := some (.lst (ps.map Fo.d))) (p4 := p4) (p7 := x7) hx ho hlx (highL x ps) fd (Y ++ X) x6 x8 x9 x10 (fun h hh => by
      obtain ⟨h1, h2⟩ := List.mem_filter.mp hh
      exact ⟨hp h h1, by have := of_decide_eq_true h2; omega⟩) (by omega)
    obtain ⟨Y2, z5, z6, z7, z8, z9, z10, e2⟩ := cast_outer (dark := dark) (P := P) (p4 := p4) hx hp hz ls (fd ++ (highL x ps).map fun h => (crF x dark l h).d) (Y ++ X ++ Y1) (some l.d) y6 x7 y8 y9 y10 (fun q hq => hl q (List.mem_cons_of_mem _ hq)) (by simp; omega)
    have b1 : evSs (callN T (n + 1)) f_law_cast_b1 [some (.lst (ps.map Fo.d)), some (.str x), some (.bl dark), some (.loc P.length), p4, some l.d, x6, x7, x8, x9, x10] (P ++ .lst fd :: Y) = .ok (.nx [some (.lst (ps.map Fo.d)), some (.str x), some (.bl dark), some (.loc P.length), p4, some l.d, y6, x7, y8, y9, y10]) (P ++ .lst (fd ++ (highL x ps).map fun h => (crF x dark l h).d) :: (Y ++ X ++ Y1)) := by
      unfold f_law_cast_b1
      rw [es_cons, es_for]
      have ei : evIt (callN T (n + 1)) (.sq (.comp false f_law_cast_c2 (.n 7) (.sq (.var 0)) (.som f_law_cast_k2) [7])) [some (.lst (ps.map Fo.d)), some (.str x), some (.bl dark), some (.loc P.length), p4, some l.d, x6, x7, x8, x9, x10] (P ++ .lst fd :: Y) = .ok ((highL x ps).map Fo.d) (P ++ .lst fd :: (Y ++ X)) := by
        rw [ev_sq, ev_comp]
        show (((Res.ok (ps.map Fo.d) (P ++ .lst fd :: Y)).bind fun items M1 => (compGo (.n 7) (fun env M => evC (callN T (n + 1)) (.som f_law_cast_k2) env M) (fun env M => evE (callN T (n + 1)) (.var 7) env M) [some (.lst (ps.map Fo.d)), some (.str x), some (.bl dark), some (.loc P.length), p4, some l.d, x6, none, x8, x9, x10] items M1).bind fun ys M2 => newList false ys M2).bind fun x M1 => ofO (walkD x) M1) = _
        simp only [bind_ok]
        rw [ec]
        rfl
      rw [ei, out_ok, e1]
      rfl
    refine ⟨X ++ Y1 ++ Y2, z5, z6, z7, z8, z9, z10, ?_⟩
    rw [List.map_cons]
    unfold forGo
    rw [show asgD (.n 5) l.d [some (.lst (ps.map Fo.d)), some (.str x), some (.bl dark), some (.loc P.length), p4, x5, x6, x7, x8, x9, x10] = some [some (.lst (ps.map Fo.d)), some (.str x), some (.bl dark), some (.loc P.length), p4, some l.d, x6, x7, x8, x9, x10] from rfl]
    dsimp only
    rw [b1]
    dsimp only
    rw [e2]
    simp [Function.comp_def]
theorem law_cast_ok {ps : List Fo} {dark : Bool} (hx : x ∈ NL) (hp : ∀ p ∈ ps, p.ok) (hl : ps.length ≤ 500) : Calc (callN T (n + 2)) "_law_cast" [.lst (ps.map Fo.d), .str x, .bl dark] (.tup ((castL x dark ps).map Fo.d)) := by
  intro M
  obtain ⟨X0, e0⟩ := pick_comp (n := n) (kx := f_law_cast_k0) (pr := fun p => decide (p.f x = 0)) (env := [some (.lst (ps.map Fo.d)), some (.str x), some (.bl dark), none, none, none, none, none, none, none, none]) (M := M) (ps := ps) rfl rfl fun p _ env X h7 h1 => cast_k0 hx h7 h1
  obtain ⟨X1, e1⟩ := pick_comp (n := n) (kx := f_law_cast_k1) (pr := fun p => decide (0 < p.f x)) (env := [some (.lst (ps.map Fo.d)), some (.str x), some (.bl dark), some (.loc (M ++ X0).length), none, none, none, none, none, none, none]) (M := M ++ X0 ++ [.lst ((restL x ps).map Fo.d)]) (ps := ps) rfl rfl fun p _ env X h7 h1 => cast_k1 hx h7 h1
  have st : M ++ X0 ++ [.lst ((restL x ps).map Fo.d)] ++ X1 = (M ++ X0) ++ .lst ((restL x ps).map Fo.d) :: X1 := by simp
  rw [st] at e1
  have l1 : (restL x ps).length ≤ 500 := Nat.le_trans (List.length_filter_le _ _) hl
  have l2 : (lowL x ps).length ≤ 500 := Nat.le_trans (List.length_filter_le _ _) hl
  obtain ⟨Y', y5, y6, y7, y8, y9, y10, e2⟩ := cast_outer (n := n) (dark := dark) (P := M ++ X0) (p4 := some (.lst ((lowL x ps).map Fo.d))) hx hp hl (lowL x ps) ((restL x ps).map Fo.d) X1 none none none none none none (fun l hl => by
    obtain ⟨h1, h2⟩ := List.mem_filter.mp hl
    exact ⟨hp l h1, by have := of_decide_eq_true h2; omega⟩) (by rw [List.length_map]; omega)
  have hc : ((restL x ps).map Fo.d) ++ ((lowL x ps).flatMap fun l => (highL x ps).map fun h => crF x dark l h).map Fo.d = (castL x dark ps).map Fo.d := by unfold castL; rw [List.map_append]
  rw [hc] at e2
  refine own_callM (fn := f_law_cast) (by kernel_rfl) rfl rfl ?_ ⟨X0 ++ .lst ((castL x dark ps).map Fo.d) :: (X1 ++ Y'), ?_⟩
  · show D.pures _ = true
    generalize castL x dark ps = l
    induction l with
    | nil => rfl
    | cons p r ih => show (D.pure (fmD p.c p.f) && D.pures (r.map Fo.d)) = true; rw [ih, fm_pure]; rfl
  have s1 : evS (callN T (n + 1)) (.asg (.n 3) (.comp true f_law_cast_c0 (.n 7) (.sq (.var 0)) (.som f_law_cast_k0) [7])) [some (.lst (ps.map Fo.d)), some (.str x), some (.bl dark), none, none, none, none, none, none, none, none] M = .ok (.nx [some (.lst (ps.map Fo.d)), some (.str x), some (.bl dark), some (.loc (M ++ X0).length), none, none, none, none, none, none, none]) (M ++ X0 ++ [.lst ((restL x ps).map Fo.d)]) := by
    rw [es_asg, ev_comp]
    show (((Res.ok (ps.map Fo.d) M).bind fun items M1 => (compGo (.n 7) (fun env M => evC (callN T (n + 1)) (.som f_law_cast_k0) env M) (fun env M => evE (callN T (n + 1)) (.var 7) env M) [some (.lst (ps.map Fo.d)), some (.str x), some (.bl dark), none, none, none, none, none, none, none, none] items M1).bind fun ys M2 => newList true ys M2).out _ fun x M1 => _) = _
    simp only [bind_ok]
    rw [e0]
    rfl
  have s2 : evS (callN T (n + 1)) (.asg (.n 4) (.comp false f_law_cast_c1 (.n 7) (.sq (.var 0)) (.som f_law_cast_k1) [7])) [some (.lst (ps.map Fo.d)), some (.str x), some (.bl dark), some (.loc (M ++ X0).length), none, none, none, none, none, none, none] (M ++ X0 ++ [.lst ((restL x ps).map Fo.d)]) = .ok (.nx [some (.lst (ps.map Fo.d)), some (.str x), some (.bl dark), some (.loc (M ++ X0).length), some (.lst ((lowL x ps).map Fo.d)), none, none, none, none, none, none]) ((M ++ X0) ++ .lst ((restL x ps).map Fo.d) :: X1) := by
    rw [es_asg, ev_comp]
    show (((Res.ok (ps.map Fo.d) (M ++ X0 ++ [.lst ((restL x ps).map Fo.d)])).bind fun items M1 => (compGo (.n 7) (fun env M => evC (callN T (n + 1)) (.som f_law_cast_k1) env M) (fun env M => evE (callN T (n + 1)) (.var 7) env M) [some (.lst (ps.map Fo.d)), some (.str x), some (.bl dark), some (.loc (M ++ X0).length), none, none, none, none, none, none, none] items M1).bind fun ys M2 => newList false ys M2).out _ fun x M1 => _) = _
    simp only [bind_ok]
    rw [e1]
    rfl
  have s3 : evS (callN T (n + 1)) (.for_ (.n 5) (.sq (.var 4)) f_law_cast_b1) [some (.lst (ps.map Fo.d)), some (.str x), some (.bl dark), some (.loc (M ++ X0).length), some (.lst ((lowL x ps).map Fo.d)), none, none, none, none, none, none] ((M ++ X0) ++ .lst ((restL x ps).map Fo.d) :: X1) = .ok (.nx [some (.lst (ps.map Fo.d)), some (.str x), some (.bl dark), some (.loc (M ++ X0).length), some (.lst ((lowL x ps).map Fo.d)), y5, y6, y7, y8, y9, y10]) ((M ++ X0) ++ .lst ((castL x dark ps).map Fo.d) :: (X1 ++ Y')) := by
    rw [es_for, ← e2]
    rfl
  unfold f_law_cast
  dsimp only
  rw [show ([D.lst (ps.map Fo.d), .str x, .bl dark].map some ++ List.replicate (11 - 3) none) = [some (.lst (ps.map Fo.d)), some (.str x), some (.bl dark), none, none, none, none, none, none, none, none] from rfl, stepS s1, stepS s2, stepS s3]
  have hb : biD .tuple false [.loc (M ++ X0).length] ((M ++ X0) ++ .lst ((castL x dark ps).map Fo.d) :: (X1 ++ Y')) = .ok (.tup ((castL x dark ps).map Fo.d)) ((M ++ X0) ++ .lst ((castL x dark ps).map Fo.d) :: (X1 ++ Y')) := by
    simp only [biD, asSeq, mid_at, ofO_some, bind_ok]
  rw [show M ++ (X0 ++ .lst ((castL x dark ps).map Fo.d) :: (X1 ++ Y')) = (M ++ X0) ++ .lst ((castL x dark ps).map Fo.d) :: (X1 ++ Y') by simp]
  refine stepR ?_
  rw [ev_bi]
  show biD .tuple false [.loc (M ++ X0).length] ((M ++ X0) ++ .lst ((castL x dark ps).map Fo.d) :: (X1 ++ Y')) = _
  exact hb
end K21T
end Z


/-! K21W: the law's span, what is kept, what is drawn of forms. -/
namespace Z
namespace K21T
open PySem L2
variable {n : Nat} {x : Str} {G : Str → Int}
/-- worths without an unknown -/
def offG (x : Str) (G : Str → Int) : Str → Int := fun m => if m = x then 0 else G m
theorem off_worth (hx : x ∈ NL) {p : Fo} : wv p.c p.f (offG x G) = rsv x G p := by
  unfold rsv wv offG
  have e1 := sum_at (f := p.f) (G := G) (V := 0) (x := x) (l := NL) NL_nd
  have e2 := sum_at (f := p.f) (G := G) (V := G x) (x := x) (l := NL) NL_nd
  have e3 : (NL.map fun n => p.f n * (if n = x then G x else G n)) = NL.map fun n => p.f n * G n := by
    apply List.map_congr_left
    intro m _
    by_cases h : m = x
    · subst h; simp
    · simp [h]
  rw [e3] at e2
  rw [if_pos hx] at e1 e2
  rw [e1, e2]
  omega
theorem off_WK {S : Str → Bool} {g : Str → Int} : WK (wd ((NL.filter S).filter fun m => !(m == x)) g) (offG x (gW S g)) := by
  have e : (NL.filter S).filter (fun m => !(m == x)) = NL.filter fun m => !(m == x) && S m := by rw [List.filter_filter]
  rw [e]
  have w := wd_WK (S := fun m => !(m == x) && S m) (g := g)
  intro m hm
  rw [w m hm]
  unfold gW offG
  by_cases h : m = x
  · subst h; simp
  · simp [h]
def spanL (x : Str) (G : Str → Int) : List Fo → Option Int → Option Int → Option (Option Int × Option Int)
  | [], lo, hi => some (lo, hi)
  | p :: r, lo, hi => if p.f x = 0 ∧ rsv x G p < 0 then none else spanL x G r (loF x G lo p) (hiF x G hi p)
theorem spanL_is : ∀ (ps : List Fo) (lo hi : Option Int), spanL x G ps lo hi = if ((restL x ps).any fun p => decide (wv p.c p.f G < 0)) = true then none else some (ps.foldl (loF x G) lo, ps.foldl (hiF x G) hi)
  | [], lo, hi => rfl
  | p :: r, lo, hi => by
    rw [spanL, spanL_is r, List.foldl_cons, List.foldl_cons]
    by_cases h0 : p.f x = 0
    · have e : restL x (p :: r) = p :: restL x r := by unfold restL; rw [List.filter_cons, if_pos (decide_eq_true h0)]
      rw [e, List.any_cons, rest_rsv h0]
      by_cases h1 : wv p.c p.f G < 0
      · rw [if_pos ⟨h0, h1⟩, if_pos (by rw [decide_eq_true h1]; rfl)]
      · rw [if_neg fun z => h1 z.2, decide_eq_false h1, Bool.false_or]
    · have e : restL x (p :: r) = restL x r := by unfold restL; rw [List.filter_cons, if_neg (by simpa using h0)]
      rw [e, if_neg fun z => h0 z.1]
def Bnd (b : Nat) (o : Option Int) : Prop := ∀ i, o = some i → i.natAbs < 2 ^ b
theorem rsv_small (hx : x ∈ NL) {p : Fo} (hp : p.ok) (hG : ∀ m ∈ NL, (G m).natAbs < 2 ^ 100) : (rsv x G p).natAbs < 2 ^ 405 := by
  rw [← off_worth hx]
  exact wv_small (b := 300) (k := 100) hp fun m hm => by
    unfold offG
    split
    · exact Nat.two_pow_pos _
    · exact hG m hm
theorem div_small {i j : Int} {b : Nat} (h : i.natAbs < 2 ^ b) : (i / j).natAbs < 2 ^ b := Nat.lt_of_le_of_lt (Int.natAbs_ediv_le_natAbs _ _) h
theorem lo_bnd (hx : x ∈ NL) {p : Fo} (hp : p.ok) (hG : ∀ m ∈ NL, (G m).natAbs < 2 ^ 100) {o : Option Int} (ho : Bnd 405 o) : Bnd 405 (loF x G o p) := by
  have h := neg_lt (div_small (j := p.f x) (rsv_small hx hp hG))
  unfold loF
  split
  · intro i e
    cases o with
    | none => cases e; exact h
    | some l =>
      dsimp only at e
      split at e <;> cases e
      · exact h
      · exact ho _ rfl
  · exact ho
theorem hi_bnd (hx : x ∈ NL) {p : Fo} (hp : p.ok) (hG : ∀ m ∈ NL, (G m).natAbs < 2 ^ 100) {o : Option Int} (ho : Bnd 405 o) : Bnd 405 (hiF x G o p) := by
  have h := div_small (j := -(p.f x)) (rsv_small hx hp hG)
  unfold hiF
  split
  · intro i e
    cases o with
    | none => cases e; exact h
    | some l =>
      dsimp only at e
      split at e <;> cases e
      · exact h
      · exact ho _ rfl
  · exact ho
theorem span_step {Q : Sto} {a : Nat} {kvs : List (Key × D)} {p0 p8 p9 x6 x7 : Option D} (hx : x ∈ NL) (hM : Q[a]? = some (.dct kvs)) (hW : WK kvs (offG x G)) (hG : ∀ m ∈ NL, (G m).natAbs < 2 ^ 100) {p : Fo} (hp : p.ok) {lo hi : Option Int} (h1 : Bnd 405 lo) (h2 : Bnd 405 hi) :
    evSs (callN T (n + 1)) f_law_span_b0 [p0, some (.str x), some (.loc a), some p.d, some (oD lo), some (oD hi), x6, x7, p8, p9] Q =
      if p.f x = 0 ∧ rsv x G p < 0 then .ok (.ret .non) (Q ++ [.dct (wd (rowL p.f) p.f)]) else
      .ok (.nx [p0, some (.str x), some (.loc a), some p.d, some (oD (loF x G lo p)), some (oD (hiF x G hi p)), some (.int (p.f x)), some (.int (rsv x G p)), p8, p9]) (Q ++ [.dct (wd (rowL p.f) p.f)]) := by
  have q1 := dict_row (m := false) (g := p.f) (M := Q) (rowL_nd p.f)
  have q2 := row_get (P := Q) (f := p.f) hx
  have q3 := kd_get (at_last (M := Q) (o := .dct (wd (rowL p.f) p.f)))
  have la : a < Q.length := (List.getElem?_eq_some_iff.mp hM).1
  have hM2 : (Q ++ [.dct (wd (rowL p.f) p.f)])[a]? = some (.dct kvs) := by rw [List.getElem?_append_left la]; exact hM
  have q4 := worth_of_gen (n := n) (c := p.c) (f := p.f) hM2 hW fun m hm => mul1 (hp.f m hm) (by decide) (c := 100) (by
    unfold offG
    split
    · exact Nat.two_pow_pos _
    · exact hG m hm) (by decide)
  rw [off_worth hx] at q4
  have q5 := q4
  rw [← law_worth_is] at q5
  have hr := rsv_small hx hp hG
  have s1 : evS (callN T (n + 1)) (.asg (.t [6, 7]) (.tup (.cons (.mth .get (.bi .dict false (.cons (.idx (.var 3) (.cst (.int 1))) .nil)) (.cons (.var 1) (.cons (.cst (.int 0)) .nil))) (.cons (.call "_law_worth" (.cons (.var 3) (.cons (.var 2) .nil))) .nil)))) [p0, some (.str x), some (.loc a), some p.d, some (oD lo), some (oD hi), x6, x7, p8, p9] Q = .ok (.nx [p0, some (.str x), some (.loc a), some p.d, some (oD lo), some (oD hi), some (.int (p.f x)), some (.int (rsv x G p)), p8, p9]) (Q ++ [.dct (wd (rowL p.f) p.f)]) := by
    simp only [Fo.d, fmD] at q1 q2 q5 ⊢
    simp [q1, q2, q3, q5]
  unfold f_law_span_b0
  rw [stepS s1]
  generalize hq : Q ++ [.dct (wd (rowL p.f) p.f)] = Q2
  rcases Int.lt_trichotomy (p.f x) 0 with hf | hf | hf
  · have n0 : ¬ p.f x = 0 := by omega
    have n1 : ¬ 0 < p.f x := by omega
    rw [if_neg fun z => n0 z.1]
    have k6 := bn_div (M := Q2) (i := rsv x G p) (j := -(p.f x)) (div_ok (by omega) (neg_lt (hp.f x hx)) (by decide))
    have e1 : loF x G lo p = lo := if_neg n1
    rw [e1]
    cases hi with
    | none =>
      have e2 : hiF x G none p = some (rsv x G p / -(p.f x)) := if_pos hf
      rw [e2]
      simp only [Int.ediv_neg] at k6
      simp [n0, n1, hf, oD, k6]
    | some h =>
      have m1 := bn_mul (M := Q2) (i := h) (j := p.f x) (mul1 (h2 h rfl) (by decide) (hp.f x hx) (by decide))
      have e2 : hiF x G (some h) p = some (if rsv x G p / -(p.f x) < h then rsv x G p / -(p.f x) else h) := if_pos hf
      rw [e2]
      have hi := high_iff (r := rsv x G p) (h := h) hf
      simp only [Int.ediv_neg] at k6 hi ⊢
      by_cases hc : h * p.f x + rsv x G p < 0
      · rw [if_pos (hi.mp hc)]
        simp [n0, n1, hf, oD, k6, m1, hc]
      · rw [if_neg fun z => hc (hi.mpr z)]
        simp [n0, n1, hf, oD, k6, m1, hc]
  · have n1 : ¬ 0 < p.f x := by omega
    have n2 : ¬ p.f x < 0 := by omega
    have e1 : loF x G lo p = lo := if_neg n1
    have e2 : hiF x G hi p = hi := if_neg n2
    rw [e1, e2]
    by_cases hc : rsv x G p < 0
    · rw [if_pos ⟨hf, hc⟩]
      simp [hf, hc]
    · rw [if_neg fun z => hc z.2]
      simp [hf, hc]
  · have n0 : ¬ p.f x = 0 := by omega
    have n1 : ¬ p.f x < 0 := by omega
    rw [if_neg fun z => n0 z.1]
    have k6 := bn_div (M := Q2) (i := p.f x - 1 - rsv x G p) (j := p.f x) (div_ok (by omega) (hp.f x hx) (by decide))
    rw [ceil_eq hf] at k6
    have e1 : hiF x G hi p = hi := if_neg n1
    rw [e1]
    cases lo with
    | none =>
      have e2 : loF x G none p = some (-(rsv x G p / p.f x)) := if_pos hf
      rw [e2]
      simp [n0, n1, hf, oD, k6]
    | some h =>
      have m1 := bn_mul (M := Q2) (i := h) (j := p.f x) (mul1 (h1 h rfl) (by decide) (hp.f x hx) (by decide))
      have e2 : loF x G (some h) p = some (if h < -(rsv x G p / p.f x) then -(rsv x G p / p.f x) else h) := if_pos hf
      rw [e2]
      have hi := low_iff (r := rsv x G p) (l := h) hf
      by_cases hc : h * p.f x + rsv x G p < 0
      · rw [if_pos (hi.mp hc)]
        simp [n0, n1, hf, oD, k6, m1, hc]
      · rw [if_neg fun z => hc (hi.mpr z)]
        simp [n0, n1, hf, oD, k6, m1, hc]
theorem span_loop {a : Nat} {kvs : List (Key × D)} {p0 p8 p9 : Option D} (hx : x ∈ NL) (hW : WK kvs (offG x G)) (hG : ∀ m ∈ NL, (G m).natAbs < 2 ^ 100) : ∀ (ps : List Fo) (lo hi : Option Int) (Q : Sto) (x3 x6 x7 : Option D), Q[a]? = some (.dct kvs) → (∀ p ∈ ps, p.ok) → Bnd 405 lo → Bnd 405 hi →
    ∃ X y3 y6 y7, forGo (.n 3) (fun env M => evSs (callN T (n + 1)) f_law_span_b0 env M) (ps.map Fo.d) [p0, some (.str x), some (.loc a), x3, some (oD lo), some (oD hi), x6, x7, p8, p9] Q =
      (match spanL x G ps lo hi with
        | none => .ok (.ret .non) (Q ++ X)
        | some (lo', hi') => .ok (.nx [p0, some (.str x), some (.loc a), y3, some (oD lo'), some (oD hi'), y6, y7, p8, p9]) (Q ++ X))
  | [], lo, hi, Q, x3, x6, x7, _, _, _, _ => ⟨[], x3, x6, x7, by simp [forGo, spanL]⟩
  | p :: r, lo, hi, Q, x3, x6, x7, hM, hp, h1, h2 => by
    have ho := hp p List.mem_cons_self
    have st := span_step (n := n) (p0 := p0) (p8 := p8) (p9 := p9) (x6 := x6) (x7 := x7) hx hM hW hG ho h1 h2
    have la : a < Q.length := (List.getElem?_eq_some_iff.mp hM).1
    have hM2 : (Q ++ [.dct (wd (rowL p.f) p.f)])[a]? = some (.dct kvs) := by rw [List.getElem?_append_left la]; exact hM
    obtain ⟨X, y3, y6, y7, e⟩ := span_loop (p0 := p0) (p8 := p8) (p9 := p9) hx hW hG r (loF x G lo p) (hiF x G hi p) (Q ++ [.dct (wd (rowL p.f) p.f)]) (some p.d) (some (.int (p.f x))) (some (.int (rsv x G p))) hM2 (fun q hq => hp q (List.mem_cons_of_mem _ hq)) (lo_bnd hx ho hG h1) (hi_bnd hx ho hG h2)
    rw [List.map_cons]
    by_cases hc : p.f x = 0 ∧ rsv x G p < 0
    · rw [if_pos hc] at st
      refine ⟨[.dct (wd (rowL p.f) p.f)], x3, x6, x7, ?_⟩
      rw [spanL, if_pos hc]
      unfold forGo
      rw [show asgD (.n 3) p.d [p0, some (.str x), some (.loc a), x3, some (oD lo), some (oD hi), x6, x7, p8, p9] = some [p0, some (.str x), some (.loc a), some p.d, some (oD lo), some (oD hi), x6, x7, p8, p9] from rfl]
      dsimp only
      rw [st]
    · rw [if_neg hc] at st
      refine ⟨[.dct (wd (rowL p.f) p.f)] ++ X, y3, y6, y7, ?_⟩
      rw [spanL, if_neg hc, ← List.append_assoc, ← e]
      conv => lhs; unfold forGo
      rw [show asgD (.n 3) p.d [p0, some (.str x), some (.loc a), x3, some (oD lo), some (oD hi), x6, x7, p8, p9] = some [p0, some (.str x), some (.loc a), some p.d, some (oD lo), some (oD hi), x6, x7, p8, p9] from rfl]
      dsimp only
      rw [st]
theorem items_ok {M : Sto} {a : Nat} {l : List Str} {g : Str → Int} (hM : M[a]? = some (.dct (wd l g))) : biD .ditems false [.loc a] M = .ok (.lst (prsD l g)) M := by
  simp only [biD, hM, newList_f]
  unfold wd
  rw [List.map_map]
  rfl
theorem law_span_ok {ps : List Fo} {S : Str → Bool} {g : Str → Int} {M : Sto} {a : Nat} (hx : x ∈ NL) (hM : M[a]? = some (.dct (wd (NL.filter S) g))) (hG : ∀ m ∈ NL, (gW S g m).natAbs < 2 ^ 100) (hp : ∀ p ∈ ps, p.ok) : callN T (n + 2) "_law_span" [.lst (ps.map Fo.d), .str x, .loc a] M = .ok (spD (spanV x (gW S g) ps)) M := by
  have i1 := items_ok hM
  have c1 : ∀ env : En, env.length = 10 → env[1]? = some (some (.str x)) → compGo (.t [8, 9]) (fun env M => evC (callN T (n + 1)) (.som f_law_span_k0) env M) (fun env M => evE (callN T (n + 1)) f_law_span_c0 env M) env (prsD (NL.filter S) g) M = .ok (prsD ((NL.filter S).filter fun m => !(m == x)) g) M := by
    intro env he h1
    refine comp_pureA (dd := fun m => .tup [.str m, .int (g m)]) (p := fun m => !(m == x)) (q := fun m => .tup [.str m, .int (g m)]) fun m hm => ?_
    have e1 : ((env.set 8 (some (.str m))).set 9 (some (.int (g m))))[8]? = some (some (.str m)) := by rw [List.getElem?_set_ne (by decide)]; exact List.getElem?_set_self (by omega)
    have e2 : ((env.set 8 (some (.str m))).set 9 (some (.int (g m))))[9]? = some (some (.int (g m))) := List.getElem?_set_self (by simp; omega)
    have e3 : ((env.set 8 (some (.str m))).set 9 (some (.int (g m))))[1]? = some (some (.str x)) := by rw [List.getElem?_set_ne (by decide), List.getElem?_set_ne (by decide)]; exact h1
    exact ⟨_, rfl, by simp [f_law_span_k0, e1, e3], fun _ => by simp [f_law_span_c0, e1, e2]⟩
  have d1 := dict_lst (m := false) (l := (NL.filter S).filter fun m => !(m == x)) (g := g) (M := M) ((NL_nd.sublist List.filter_sublist).sublist List.filter_sublist)
  obtain ⟨X, y3, y6, y7, e⟩ := span_loop (n := n) (p0 := some (.lst (ps.map Fo.d))) (p8 := none) (p9 := none) hx off_WK hG ps none none (M ++ [.dct (wd ((NL.filter S).filter fun m => !(m == x)) g)]) none none none at_last hp (fun _ h => nomatch h) (fun _ h => nomatch h)
  refine own_callM (fn := f_law_span) (by kernel_rfl) rfl rfl sp_pure ⟨[.dct (wd ((NL.filter S).filter fun m => !(m == x)) g)] ++ X, ?_⟩
  have s1 : evS (callN T (n + 1)) (.asg (.t [4, 5, 2]) (.tup (.cons (.cst .non) (.cons (.cst .non) (.cons (.bi .dict false (.cons (.comp false f_law_span_c0 (.t [8, 9]) (.sq (.bi .ditems false (.cons (.var 2) .nil))) (.som f_law_span_k0) [8, 9]) .nil)) .nil))))) [some (.lst (ps.map Fo.d)), some (.str x), some (.loc a), none, none, none, none, none, none, none] M = .ok (.nx [some (.lst (ps.map Fo.d)), some (.str x), some (.loc M.length), none, some (oD none), some (oD none), none, none, none, none]) (M ++ [.dct (wd ((NL.filter S).filter fun m => !(m == x)) g)]) := by
    have c2 : evE (callN T (n + 1)) (.comp false f_law_span_c0 (.t [8, 9]) (.sq (.bi .ditems false (.cons (.var 2) .nil))) (.som f_law_span_k0) [8, 9]) [some (.lst (ps.map Fo.d)), some (.str x), some (.loc a), none, none, none, none, none, none, none] M = .ok (.lst (prsD ((NL.filter S).filter fun m => !(m == x)) g)) M := by
      rw [ev_comp]
      have i2 : evIt (callN T (n + 1)) (.sq (.bi .ditems false (.cons (.var 2) .nil))) [some (.lst (ps.map Fo.d)), some (.str x), some (.loc a), none, none, none, none, none, none, none] M = .ok (prsD (NL.filter S) g) M := by simp [i1]
      rw [i2]
      simp only [bind_ok]
      rw [c1 _ rfl rfl]
      rfl
    simp only [es_asg, ev_tup, ev_cons, ev_cst, ev_nil, ev_bi, c2, bind_ok, d1, out_ok]
    rfl
  unfold f_law_span
  dsimp only
  rw [show ([D.lst (ps.map Fo.d), .str x, .loc a].map some ++ List.replicate (10 - 3) none) = [some (.lst (ps.map Fo.d)), some (.str x), some (.loc a), none, none, none, none, none, none, none] from rfl, stepS s1, ← List.append_assoc]
  rw [spanL_is] at e
  rw [es_cons, es_for]
  rw [show evIt (callN T (n + 1)) (.sq (.var 0)) [some (.lst (ps.map Fo.d)), some (.str x), some (.loc M.length), none, some (oD none), some (oD none), none, none, none, none] (M ++ [.dct (wd ((NL.filter S).filter fun m => !(m == x)) g)]) = .ok (ps.map Fo.d) (M ++ [.dct (wd ((NL.filter S).filter fun m => !(m == x)) g)]) from rfl, out_ok, e]
  unfold spanV
  by_cases hr : ((restL x ps).any fun p => decide (wv p.c p.f (gW S g) < 0)) = true
  · rw [if_pos hr, if_pos hr]
    rfl
  · rw [if_neg hr, if_neg hr]
    dsimp only [next_nx]
    rw [es_cons, es_iff, cross_ev rfl rfl]
    cases hc : crossB (ps.foldl (loF x (gW S g)) none) (ps.foldl (hiF x (gW S g)) none) with
    | true => rfl
    | false => rfl
end K21T
end Z


/-! K21X: what the law keeps, forms drawn, what is refused. -/
namespace Z
namespace K21T
open PySem L2
variable {n : Nat} {x : Str} {Rs : Sto}
theorem cr_ok {dark : Bool} {l h : Fo} (hx : x ∈ NL) (hl : l.ok) (hh : h.ok) : Sm 704 (crF x dark l h).c (crF x dark l h).f := by
  have hp : (0 : Int).natAbs < 2 ^ 702 := Nat.two_pow_pos _
  refine sum_sm (k := 702) (j := 2) (fun t ht => ?_) (fun t ht m hm => ?_) (by simp [crT])
  · simp only [crT, List.mem_cons, List.not_mem_nil, or_false] at ht
    rcases ht with rfl | rfl | rfl
    · exact up (abs_mul hl.c (neg_lt (hh.f x hx))) (by decide)
    · exact up (abs_mul hh.c (hl.f x hx)) (by decide)
    · exact up (abs_mul (neg_lt (gap_lt (hl.f x hx) (neg_lt (hh.f x hx)))) (j := 1) (b := 1) (by decide)) (by decide)
  · simp only [crT, List.mem_cons, List.not_mem_nil, or_false] at ht
    rcases ht with rfl | rfl | rfl
    · exact up (abs_mul (hl.f m hm) (neg_lt (hh.f x hx))) (by decide)
    · exact up (abs_mul (hh.f m hm) (hl.f x hx)) (by decide)
    · exact hp
theorem cast_sm {dark : Bool} {ps : List Fo} (hx : x ∈ NL) (hp : ∀ p ∈ ps, p.ok) : ∀ p ∈ castL x dark ps, Sm 704 p.c p.f := by
  intro p h
  unfold castL at h
  rcases List.mem_append.mp h with h | h
  · exact (hp p (List.mem_filter.mp h).1).up (by decide)
  · obtain ⟨l, hl, h⟩ := List.mem_flatMap.mp h
    obtain ⟨q, hq, rfl⟩ := List.mem_map.mp h
    exact cr_ok hx (hp l (List.mem_filter.mp hl).1) (hp q (List.mem_filter.mp hq).1)
theorem ints_fits : ∀ {l : List Int} {k : Nat}, D.fits k (l.map .int) = true
  | [], k => by cases k <;> rfl
  | i :: r, k => by
    show (D.fit k (.int i) && D.fits k (r.map .int)) = true
    rw [ints_fits, int_fit]; rfl
theorem ints_ne {M : Sto} {l : List Int} : eqD M (.lst (l.map .int)) (.lst []) = some l.isEmpty := by
  show (if D.scal _ _ then _ else (if D.fit 64 (.lst (l.map .int)) && D.fit 64 (.lst []) then some (D.eqv (.lst (l.map .int)) (.lst [])) else none)) = _
  have e : (D.fit 64 (.lst (l.map .int)) && D.fit 64 (.lst [])) = true := by
    show (D.fits 63 (l.map .int) && true) = true
    rw [ints_fits]; rfl
  rw [e]
  cases l <;> rfl
theorem neg_comp {C : Calls} {M : Sto} {env : En} {c k : E} {l : List Int} (hk : k = .cmp .lt (.var 7) (.cst (.int 0))) (hc : c = .var 7) (he : 7 < env.length) : compGo (.n 7) (fun env M => evC C (.som k) env M) (fun env M => evE C c env M) env (l.map .int) M = .ok ((l.filter fun i => decide (i < 0)).map .int) M := by
  subst hk hc
  refine comp_pureA (dd := D.int) fun i _ => ?_
  have e1 : (env.set 7 (some (.int i)))[7]? = some (some (.int i)) := List.getElem?_set_self he
  exact ⟨_, rfl, by simp [e1], fun _ => by simp [e1]⟩
theorem fil_neg {l : List Int} : (l.filter fun i => decide (i < 0)).isEmpty = l.all fun i => decide (0 ≤ i) := by
  induction l with
  | nil => rfl
  | cons i r ih =>
    rw [List.filter_cons, List.all_cons, ← ih]
    by_cases h : i < 0
    · rw [if_pos (decide_eq_true h), decide_eq_false (by omega)]; rfl
    · rw [if_neg (by simpa using h), decide_eq_true (by omega), Bool.true_and]
theorem law_kept_ok {ps : List Fo} {S : Str → Bool} {g : Str → Int} {M : Sto} {a : Nat} (hx : x ∈ NL) (hM : M[a]? = some (.dct (wd (NL.filter S) g))) (hG : ∀ m ∈ NL, (gW S g m).natAbs < 2 ^ 100) (hp : ∀ p ∈ ps, p.ok) (hl : ps.length ≤ 500) : callN T (n + 3) "_law_kept" [.lst (ps.map Fo.d), .str x, .loc a, spD (spanV x (gW S g) ps)] M = .ok (.bl true) M := by
  refine own_callM (fn := f_law_kept) (by kernel_rfl) rfl rfl rfl ⟨[], ?_⟩
  rw [List.append_nil]
  have wc : ∀ (dark : Bool) (c0 : E) (env : En), c0 = .call "_law_worth" (.cons (.var 6) (.cons (.var 2) .nil)) → env.length = 8 → env[2]? = some (some (.loc a)) → compGo (.n 6) (fun _ M => .ok true M) (fun env M => evE (callN T (n + 2)) c0 env M) env ((castL x dark ps).map Fo.d) M = .ok (((castL x dark ps).map fun p => wv p.c p.f (gW S g)).map .int) M := by
    rintro dark c0 env rfl he h2
    have e := comp_pureA (dd := Fo.d) (t := .n 6) (c := fun _ M => Res.ok true M) (el := fun env M => evE (callN T (n + 2)) (.call "_law_worth" (.cons (.var 6) (.cons (.var 2) .nil))) env M) (env := env) (p := fun _ => true) (q := fun p => D.int (wv p.c p.f (gW S g))) (M := M) (l := castL x dark ps) fun p hpm => by
      have k := worth_of_gen (n := n + 1) (c := p.c) (f := p.f) hM wd_WK fun m hm => mul1 ((cast_sm hx hp p hpm).f m hm) (by decide) (hG m hm) (by decide)
      rw [← law_worth_is] at k
      have e1 : (env.set 6 (some p.d))[6]? = some (some p.d) := List.getElem?_set_self (by omega)
      have e2 : (env.set 6 (some p.d))[2]? = some (some (.loc a)) := by rw [List.getElem?_set_ne (by decide)]; exact h2
      refine ⟨_, rfl, rfl, fun _ => ?_⟩
      simp only [Fo.d] at e1 e2 ⊢
      simp [e1, e2, k]
    rw [List.filter_eq_self.mpr (fun _ _ => rfl)] at e
    rw [e, List.map_map]
    rfl
  have b1 := law_cast_ok (n := n) (dark := false) hx hp hl M
  have b2 := law_cast_ok (n := n) (dark := true) hx hp hl M
  generalize hs : spanV x (gW S g) ps = sp at *
  generalize hbr : (castL x false ps).map (fun p => wv p.c p.f (gW S g)) = br at *
  generalize hdk : (castL x true ps).map (fun p => wv p.c p.f (gW S g)) = dk at *
  have s1 : evS (callN T (n + 2)) (.asg (.n 4) (.comp false f_law_kept_c0 (.n 6) (.sq (.call "_law_cast" (.cons (.var 0) (.cons (.var 1) (.cons (.cst (.bl false)) .nil))))) .non [6])) [some (.lst (ps.map Fo.d)), some (.str x), some (.loc a), some (spD sp), none, none, none, none] M = .ok (.nx [some (.lst (ps.map Fo.d)), some (.str x), some (.loc a), some (spD sp), some (.lst (br.map .int)), none, none, none]) M := by
    rw [es_asg, ev_comp]
    rw [show evIt (callN T (n + 2)) (.sq (.call "_law_cast" (.cons (.var 0) (.cons (.var 1) (.cons (.cst (.bl false)) .nil))))) [some (.lst (ps.map Fo.d)), some (.str x), some (.loc a), some (spD sp), none, none, none, none] M = .ok ((castL x false ps).map Fo.d) M by simp [b1]]
    simp only [bind_ok]
    have e := wc false f_law_kept_c0 [some (.lst (ps.map Fo.d)), some (.str x), some (.loc a), some (spD sp), none, none, none, none] rfl rfl rfl
    rw [hbr] at e
    rw [show wipeE [some (D.lst (ps.map Fo.d)), some (.str x), some (.loc a), some (spD sp), none, none, none, none] [6] = [some (.lst (ps.map Fo.d)), some (.str x), some (.loc a), some (spD sp), none, none, none, none] from rfl]
    refine Eq.trans (congrArg (fun r => Res.out (Res.bind r _) _ _) e) rfl
  have s2 : evS (callN T (n + 2)) (.asg (.n 5) (.comp false f_law_kept_c1 (.n 6) (.sq (.call "_law_cast" (.cons (.var 0) (.cons (.var 1) (.cons (.cst (.bl true)) .nil))))) .non [6])) [some (.lst (ps.map Fo.d)), some (.str x), some (.loc a), some (spD sp), some (.lst (br.map .int)), none, none, none] M = .ok (.nx [some (.lst (ps.map Fo.d)), some (.str x), some (.loc a), some (spD sp), some (.lst (br.map .int)), some (.lst (dk.map .int)), none, none]) M := by
    rw [es_asg, ev_comp]
    rw [show evIt (callN T (n + 2)) (.sq (.call "_law_cast" (.cons (.var 0) (.cons (.var 1) (.cons (.cst (.bl true)) .nil))))) [some (.lst (ps.map Fo.d)), some (.str x), some (.loc a), some (spD sp), some (.lst (br.map .int)), none, none, none] M = .ok ((castL x true ps).map Fo.d) M by simp [b2]]
    simp only [bind_ok]
    have e := wc true f_law_kept_c1 [some (.lst (ps.map Fo.d)), some (.str x), some (.loc a), some (spD sp), some (.lst (br.map .int)), none, none, none] rfl rfl rfl
    rw [hdk] at e
    rw [show wipeE [some (D.lst (ps.map Fo.d)), some (.str x), some (.loc a), some (spD sp), some (.lst (br.map .int)), none, none, none] [6] = [some (.lst (ps.map Fo.d)), some (.str x), some (.loc a), some (spD sp), some (.lst (br.map .int)), none, none, none] from rfl]
    refine Eq.trans (congrArg (fun r => Res.out (Res.bind r _) _ _) e) rfl
  have k1 : evE (callN T (n + 2)) (.comp false f_law_kept_c2 (.n 7) (.sq (.var 4)) (.som f_law_kept_k0) [7]) [some (.lst (ps.map Fo.d)), some (.str x), some (.loc a), some (spD sp), some (.lst (br.map .int)), some (.lst (dk.map .int)), none, none] M = .ok (.lst ((br.filter fun i => decide (i < 0)).map .int)) M := by
    rw [ev_comp]
    rw [show evIt (callN T (n + 2)) (.sq (.var 4)) [some (.lst (ps.map Fo.d)), some (.str x), some (.loc a), some (spD sp), some (.lst (br.map .int)), some (.lst (dk.map .int)), none, none] M = .ok (br.map .int) M from rfl]
    simp only [bind_ok]
    rw [neg_comp (k := f_law_kept_k0) (c := f_law_kept_c2) rfl rfl (by show 7 < 8; decide)]
    rfl
  have k2 : evE (callN T (n + 2)) (.comp false f_law_kept_c3 (.n 7) (.sq (.var 5)) (.som f_law_kept_k1) [7]) [some (.lst (ps.map Fo.d)), some (.str x), some (.loc a), some (spD sp), some (.lst (br.map .int)), some (.lst (dk.map .int)), none, none] M = .ok (.lst ((dk.filter fun i => decide (i < 0)).map .int)) M := by
    rw [ev_comp]
    rw [show evIt (callN T (n + 2)) (.sq (.var 5)) [some (.lst (ps.map Fo.d)), some (.str x), some (.loc a), some (spD sp), some (.lst (br.map .int)), some (.lst (dk.map .int)), none, none] M = .ok (dk.map .int) M from rfl]
    simp only [bind_ok]
    rw [neg_comp (k := f_law_kept_k1) (c := f_law_kept_c3) rfl rfl (by show 7 < 8; decide)]
    rfl
  unfold f_law_kept
  dsimp only
  rw [show ([D.lst (ps.map Fo.d), .str x, .loc a, spD sp].map some ++ List.replicate (8 - 4) none) = [some (.lst (ps.map Fo.d)), some (.str x), some (.loc a), some (spD sp), none, none, none, none] from rfl, stepS s1, stepS s2]
  have z1 := ints_ne (M := M) (l := br.filter fun i => decide (i < 0))
  have z2 := ints_ne (M := M) (l := dk.filter fun i => decide (i < 0))
  rw [fil_neg] at z1 z2
  cases sp with
  | none =>
    obtain ⟨p, hpm, hneg⟩ := dark_neg hs
    have q : (dk.all fun i => decide (0 ≤ i)) = false := by
      rw [← hdk, List.all_map, List.all_eq_false]
      exact ⟨p, hpm, by simpa using hneg⟩
    rw [q] at z2
    simp [spD] at k1 k2 ⊢
    simp [k2, z2]
  | some o =>
    obtain ⟨lo, hi⟩ := o
    have q : (br.all fun i => decide (0 ≤ i)) = true := by
      rw [← hbr, List.all_map, List.all_eq_true]
      intro p hpm
      exact decide_eq_true (bright_ok (by rw [hs]; simp) p hpm)
    rw [q] at z1
    simp [spD] at k1 k2 ⊢
    simp [k1, z1]
/-! ### forms drawn -/
def facL : List D := [.int 0, .int 1, .int (-1), .int 2, .int (-2), .int 3, .int (-3), .int 5, .int (-7), .int 12, .int (-20)]
theorem fac_ok {v : Int} (hv : v.natAbs < 2 ^ 100) : ∀ d ∈ facL ++ [D.int v], ∃ i : Int, d = .int i ∧ i.natAbs < 2 ^ 100 := by
  intro d hd
  rcases List.mem_append.mp hd with hd | hd
  · simp only [facL, List.mem_cons, List.not_mem_nil, or_false] at hd
    rcases hd with rfl | rfl | rfl | rfl | rfl | rfl | rfl | rfl | rfl | rfl | rfl <;> exact ⟨_, rfl, by decide⟩
  · rw [List.mem_singleton] at hd
    exact ⟨v, hd, hv⟩
def Fo.sm (p : Fo) : Prop := Sm 110 p.c p.f
theorem bounding_step {l : List Str} {fd : List D} {x5 x6 i : Option D} {X : Sto} {M : Sto} (hl : l.length ≤ 7) (nd : l.Nodup) (hN : ∀ y ∈ l, y ∈ NL) (hx : x ∈ NL) (hz : fd.length ≤ 1000) (d : Deal (Rs ++ (.lst fd :: X)) M) :
    ∃ (p : Fo) (X' M' : Sto) (y5 y6 : Option D), evSs (callN T (n + 6)) f_law_bounding_b0 [some (.loc 1), some (.str x), some (.lst (l.map .str)), some (.loc (Rs.length + 2)), i, x5, x6] M = .ok (.nx [some (.loc 1), some (.str x), some (.lst (l.map .str)), some (.loc (Rs.length + 2)), i, y5, y6]) M' ∧ p.sm ∧ Deal (Rs ++ (.lst (fd ++ [p.d]) :: X')) M' := by
  obtain ⟨r, M1, a1, d1, r0, r1⟩ := law_any_ok (n := n + 5) (bound := 5) d (by decide) (by decide +kernel)
  obtain ⟨c, f, X2, M2, e2, s2, d2⟩ : ∃ c f X2 M2, evE (callN T (n + 6)) (.ite (.cmp .eq (.call "_law_any" (.cons (.var 0) (.cons (.cst (.int 5)) .nil))) (.cst (.int 0))) (.call "_law_long_form" (.cons (.var 0) (.cons (.var 2) .nil))) (.call "_law_form" (.cons (.var 0) (.cons (.var 2) .nil)))) [some (.loc 1), some (.str x), some (.lst (l.map .str)), some (.loc (Rs.length + 2)), i, x5, x6] M = .ok (fmD c f) M2 ∧ Sm 104 c f ∧ Deal (Rs ++ (.lst fd :: X) ++ X2) M2 := by
    by_cases hr : r = 0
    · obtain ⟨c, f, X2, M2, g1, g2, g3⟩ := law_long_form_ok (n := n + 1) hl nd hN d1
      exact ⟨c, f, X2, M2, by simp [a1, hr, g1], g2, g3⟩
    · obtain ⟨c, f, X2, M2, g1, g2, g3⟩ := law_form_ok (n := n + 1) hl nd hN d1
      exact ⟨c, f, X2, M2, by simp [a1, hr, g1], g2, g3⟩
  obtain ⟨v, M3, a3, hv, d3⟩ := law_number_ok (n := n + 3) d2
  obtain ⟨w, hw, M4, a4, d4⟩ := law_of_ok (n := n + 4) (xs := facL ++ [D.int v]) d3 (by simp) (by simp [facL])
  obtain ⟨k, rfl, hk⟩ := fac_ok hv w hw
  have s1 : evS (callN T (n + 6)) (.asg (.n 5) (.ite (.cmp .eq (.call "_law_any" (.cons (.var 0) (.cons (.cst (.int 5)) .nil))) (.cst (.int 0))) (.call "_law_long_form" (.cons (.var 0) (.cons (.var 2) .nil))) (.call "_law_form" (.cons (.var 0) (.cons (.var 2) .nil))))) [some (.loc 1), some (.str x), some (.lst (l.map .str)), some (.loc (Rs.length + 2)), i, x5, x6] M = .ok (.nx [some (.loc 1), some (.str x), some (.lst (l.map .str)), some (.loc (Rs.length + 2)), i, some (fmD c f), x6]) M2 := by
    rw [es_asg, e2]; rfl
  have hst : Rs ++ (.lst fd :: X) ++ X2 = Rs ++ .lst fd :: (X ++ X2) := by simp
  rw [hst] at d4
  have at4 : M4[Rs.length + 2]? = some (.lst fd) ∧ ∀ w, Deal (Rs ++ w :: (X ++ X2)) (M4.set (Rs.length + 2) w) := by
    obtain ⟨cells, b, rfl, h⟩ := d4.is
    refine ⟨?_, fun w => ⟨cells, b, ?_, h⟩⟩
    · show (_ :: _ :: (Rs ++ .lst fd :: (X ++ X2)))[Rs.length + 2]? = _
      simp
    · show (_ :: _ :: (Rs ++ .lst fd :: (X ++ X2))).set (Rs.length + 2) w = _ :: _ :: (Rs ++ w :: (X ++ X2))
      simp
  have kd := kd_append at4.1
  unfold facL at a4
  by_cases hk0 : k = 0
  · subst hk0
    have q := law_sum_ok (n := n + 5) (ts := [⟨c, f, 1⟩]) (by intro t ht; rw [List.mem_singleton] at ht; subst ht; exact s2.ok (by decide) (k := 1) (by decide) (by decide)) M4
    have e1 : sumC [⟨c, f, 1⟩] = c := by simp [sumC]
    have e2' : sumF [⟨c, f, 1⟩] = f := by funext m; simp [sumF]
    rw [e1, e2'] at q
    have q : callN T (n + 6) "_law_sum" [.lst [.tup [fmD c f, .int 1]]] M4 = .ok (fmD c f) M4 := q
    have ap := md_append (d := fmD c f) at4.1 (by omega)
    refine ⟨⟨c, f⟩, X ++ X2, M4.set (Rs.length + 2) (.lst (fd ++ [fmD c f])), some (fmD c f), some (.int 0), ?_, s2.up (by decide), at4.2 _⟩
    have kd3 : kindM .append M4 (.loc (Rs.length + 2)) = true := kd
    unfold f_law_bounding_b0
    rw [stepS s1]
    have kd2 : ∀ u, evE (callN T (n + 6)) (.var 3) [some (.loc 1), some (.str x), some (.lst (l.map .str)), some (.loc (Rs.length + 2)), i, some (fmD c f), some u] M4 = .ok (.loc (Rs.length + 2)) M4 := fun _ => rfl
    simp at a4
    simp [a3, a4, kd, q, ap]
  · have hu : D.tup [.int 0, .tup [.tup [.str x, .int k]]] = fmD 0 fun m => if m = x then k else 0 := unit_d hx hk0
    have q := law_sum_ok (n := n + 5) (ts := [⟨c, f, 1⟩, ⟨0, fun m => if m = x then k else 0, 1⟩]) (by
      intro t ht
      simp only [List.mem_cons, List.not_mem_nil, or_false] at ht
      rcases ht with rfl | rfl
      · exact s2.ok (by decide) (k := 1) (by decide) (by decide)
      · refine ⟨mul1 (i := 0) (b := 1) (by decide) (by decide) (a := 1) (c := 1) (by decide) (by decide), fun m _ => mul1 (b := 100) ?_ (by decide) (a := 1) (c := 1) (by decide) (by decide)⟩
        show (if m = x then k else 0).natAbs < 2 ^ 100
        split
        · exact hk
        · decide) M4
    have e1 : sumC [⟨c, f, 1⟩, ⟨0, fun m => if m = x then k else 0, 1⟩] = c := by simp [sumC]
    have e2' : sumF [⟨c, f, 1⟩, ⟨0, fun m => if m = x then k else 0, 1⟩] = fun m => f m + if m = x then k else 0 := by funext m; simp [sumF]
    rw [e1, e2'] at q
    have q : callN T (n + 6) "_law_sum" [.lst [.tup [fmD c f, .int 1], .tup [fmD 0 fun m => if m = x then k else 0, .int 1]]] M4 = .ok (fmD c fun m => f m + if m = x then k else 0) M4 := q
    rw [← hu] at q
    have ap := md_append (d := fmD c fun m => f m + if m = x then k else 0) at4.1 (by omega)
    refine ⟨⟨c, fun m => f m + if m = x then k else 0⟩, X ++ X2, M4.set (Rs.length + 2) (.lst (fd ++ [fmD c fun m => f m + if m = x then k else 0])), some (fmD c f), some (.int k), ?_, ⟨up s2.c (by decide), fun m hm => ?_⟩, at4.2 _⟩
    · unfold f_law_bounding_b0
      rw [stepS s1]
      simp at a4
      simp [a3, a4, kd, hk0, q, ap]
    · refine up (abs_add (s2.f m hm) (a := 104) ?_) (by decide)
      show (if m = x then k else 0).natAbs < 2 ^ 104
      split
      · exact up hk (by decide)
      · decide
theorem bounding_loop {l : List Str} (hl : l.length ≤ 7) (nd : l.Nodup) (hN : ∀ y ∈ l, y ∈ NL) (hx : x ∈ NL) : ∀ (k : Nat) (lo : Int) (fd : List Fo) (x4 x5 x6 : Option D) (X M : Sto), fd.length + k ≤ 100 → (∀ p ∈ fd, p.sm) → Deal (Rs ++ (.lst (fd.map Fo.d) :: X)) M →
    ∃ (ps : List Fo) (X' M' : Sto) (y4 y5 y6 : Option D), forGo (.n 4) (fun env M => evSs (callN T (n + 6)) f_law_bounding_b0 env M) (rngD lo k) [some (.loc 1), some (.str x), some (.lst (l.map .str)), some (.loc (Rs.length + 2)), x4, x5, x6] M = .ok (.nx [some (.loc 1), some (.str x), some (.lst (l.map .str)), some (.loc (Rs.length + 2)), y4, y5, y6]) M' ∧ (∀ p ∈ ps, p.sm) ∧ ps.length = fd.length + k ∧ Deal (Rs ++ (.lst (ps.map Fo.d) :: X')) M'
  | 0, lo, fd, x4, x5, x6, X, M, _, hf, d => ⟨fd, X, M, x4, x5, x6, rfl, hf, rfl, d⟩
  | k + 1, lo, fd, x4, x5, x6, X, M, hz, hf, d => by
    obtain ⟨p, X1, M1, y5, y6, e1, hp, d1⟩ := bounding_step (n := n) (x5 := x5) (x6 := x6) (i := some (.int lo)) hl nd hN hx (by rw [List.length_map]; omega) d
    have e0 : fd.map Fo.d ++ [p.d] = (fd ++ [p]).map Fo.d := by simp
    rw [e0] at d1
    obtain ⟨ps, X', M', y4, y5', y6', e2, h2, h3, d2⟩ := bounding_loop hl nd hN hx k (lo + 1) (fd ++ [p]) (some (.int lo)) y5 y6 X1 M1 (by simp; omega) (fun q hq => by
      rcases List.mem_append.mp hq with hq | hq
      · exact hf q hq
      · rw [List.mem_singleton] at hq; subst hq; exact hp) d1
    refine ⟨ps, X', M', y4, y5', y6', ?_, h2, by rw [h3]; simp; omega, d2⟩
    rw [rngD]
    unfold forGo
    rw [show asgD (.n 4) (.int lo) [some (.loc 1), some (.str x), some (.lst (l.map .str)), some (.loc (Rs.length + 2)), x4, x5, x6] = some [some (.loc 1), some (.str x), some (.lst (l.map .str)), some (.loc (Rs.length + 2)), some (.int lo), x5, x6] from rfl]
    dsimp only
    rw [e1]
    exact e2
theorem law_bounding_ok {l : List Str} {M : Sto} (hl : l.length ≤ 7) (nd : l.Nodup) (hN : ∀ y ∈ l, y ∈ NL) (hx : x ∈ NL) (d : Deal Rs M) : ∃ (ps : List Fo) (X M' : Sto), callN T (n + 7) "_law_bounding" [.loc 1, .str x, .lst (l.map .str)] M = .ok (.lst (ps.map Fo.d)) M' ∧ (∀ p ∈ ps, p.sm) ∧ ps.length ≤ 6 ∧ Deal (Rs ++ X) M' := by
  have hM : M.length = Rs.length + 2 := d.len
  have d0 : Deal (Rs ++ [.lst []]) (M ++ [.lst []]) := d.more _
  obtain ⟨r, M1, a1, d1, r0, r1⟩ := law_any_ok (n := n + 5) (bound := 6) d0 (by decide) (by decide +kernel)
  obtain ⟨ps, X, M2, y4, y5, y6, e2, h2, h3, d2⟩ := bounding_loop (n := n) hl nd hN hx r.toNat 0 [] none none none [] M1 (by simp; omega) (fun _ h => nomatch h) d1
  have at2 : M2[Rs.length + 2]? = some (.lst (ps.map Fo.d)) ∧ ∀ w, Deal (Rs ++ w :: X) (M2.set (Rs.length + 2) w) := by
    obtain ⟨cells, b, rfl, h⟩ := d2.is
    refine ⟨?_, fun w => ⟨cells, b, ?_, h⟩⟩
    · show (_ :: _ :: (Rs ++ .lst (ps.map Fo.d) :: X))[Rs.length + 2]? = _
      simp
    · show (_ :: _ :: (Rs ++ .lst (ps.map Fo.d) :: X)).set (Rs.length + 2) w = _ :: _ :: (Rs ++ w :: X)
      simp
  refine ⟨ps, .dead :: X, M2.set (Rs.length + 2) .dead, ?_, h2, by rw [h3]; simp; omega, at2.2 _⟩
  refine free_call (fn := f_law_bounding) (by kernel_rfl) rfl rfl ?_
  have g := frz_at at2.1
  have hr : fitLen r.natAbs = true := decide_eq_true (by omega)
  simp [f_law_bounding, hM, a1, hr]
  rw [e2]
  simp [g]
end K21T
end Z


/-! K21Y: forms moved near to 0; what is refused. -/
namespace Z
namespace K21T
open PySem L2
variable {n : Nat} {x : Str} {Rs : Sto}
theorem getK_put {k k' : Key} {v : D} : ∀ {kvs : List (Key × D)}, getK (putD k v kvs) k' = if k' = k then some v else getK kvs k' := by
  intro kvs
  unfold putD
  split
  · rename_i h
    induction kvs with
    | nil => simp at h
    | cons kv r ih =>
      obtain ⟨a, b⟩ := kv
      rw [List.any_cons, Bool.or_eq_true, decide_eq_true_eq] at h
      rw [List.map_cons]
      unfold getK
      by_cases e : a = k
      · subst e
        by_cases e2 : k' = a
        · subst e2; simp
        · rw [if_pos rfl, List.find?_cons_of_neg (by simpa using fun z => e2 z.symm), List.find?_cons_of_neg (by simpa using fun z => e2 z.symm), if_neg e2]
          have g : ∀ r : List (Key × D), (r.map fun kv => if kv.1 = a then (kv.1, v) else kv).find? (fun kv => decide (kv.1 = k')) = r.find? fun kv => decide (kv.1 = k') := by
            intro r
            induction r with
            | nil => rfl
            | cons q t iht =>
              rw [List.map_cons]
              by_cases eq : q.1 = a
              · rw [if_pos eq, List.find?_cons_of_neg (by simpa [eq] using fun z => e2 z.symm), List.find?_cons_of_neg (by simpa [eq] using fun z => e2 z.symm), iht]
              · rw [if_neg eq]
                by_cases eq2 : q.1 = k'
                · rw [List.find?_cons_of_pos (by simpa using eq2), List.find?_cons_of_pos (by simpa using eq2)]
                · rw [List.find?_cons_of_neg (by simpa using eq2), List.find?_cons_of_neg (by simpa using eq2), iht]
          rw [g]
      · have h2 := ih (h.resolve_left e)
        unfold getK at h2
        rw [if_neg e]
        by_cases e2 : a = k'
        · subst e2
          rw [List.find?_cons_of_pos (by simp), List.find?_cons_of_pos (by simp), if_neg e]
        · rw [List.find?_cons_of_neg (by simpa using e2), List.find?_cons_of_neg (by simpa using e2)]
          exact h2
  · rename_i h
    unfold getK
    rw [List.find?_append]
    by_cases e : k' = k
    · subst e
      have : kvs.find? (fun kv => decide (kv.1 = k')) = none := by
        rw [List.find?_eq_none]
        intro kv hm z
        exact h (List.any_eq_true.mpr ⟨kv, hm, z⟩)
      rw [this, if_pos rfl]
      simp
    · rw [if_neg e, List.find?_cons_of_neg (by simpa using fun z => e z.symm)]
      simp
theorem put_WK {kvs : List (Key × D)} {G : Str → Int} {v : Int} (h : WK kvs G) : WK (putD (Sum.inr x) (.int v) kvs) fun m => if m = x then v else G m := fun m hm => by
  rw [getK_put]
  by_cases e : m = x
  · subst e; simp
  · rw [if_neg (by intro z; exact e (by injection z)), h m hm]
    show D.int (G m) = D.int (if m = x then v else G m)
    rw [if_neg e]
def nearL : List D := [.int 0, .int 0, .int 1, .int 2, .int 3, .int 7, .int (-1)]
theorem near_ok : ∀ d ∈ nearL, ∃ v : Int, d = .int v ∧ v.natAbs < 2 ^ 4 := by
  intro d hd
  simp only [nearL, List.mem_cons, List.not_mem_nil, or_false] at hd
  rcases hd with rfl | rfl | rfl | rfl | rfl | rfl | rfl <;> exact ⟨_, rfl, by decide⟩
theorem fos_of : ∀ {ps : List Fo} {ys : List D}, F2 (fun _ y => ∃ q : Fo, y = q.d ∧ q.ok) (ps.map Fo.d) ys → ∃ qs : List Fo, ys = qs.map Fo.d ∧ (∀ q ∈ qs, q.ok) ∧ qs.length = ps.length
  | [], _, h => by cases h; exact ⟨[], rfl, (fun _ h => nomatch h), rfl⟩
  | p :: r, _, h => by
    rw [List.map_cons] at h
    cases h with
    | cons q t =>
      obtain ⟨z, rfl, hz⟩ := q
      obtain ⟨qs, rfl, h2, h3⟩ := fos_of t
      refine ⟨z :: qs, rfl, fun q hq => ?_, by simp [h3]⟩
      rcases List.mem_cons.mp hq with rfl | hq
      · exact hz
      · exact h2 q hq
theorem law_near_ok {ps : List Fo} {S : Str → Bool} {g : Str → Int} {M : Sto} (hx : x ∈ NL) (hp : ∀ p ∈ ps, p.sm) (hG : ∀ m ∈ NL, (gW S g m).natAbs < 2 ^ 100) (d : Deal Rs M) : ∃ (qs : List Fo) (X M' : Sto), callN T (n + 3) "_law_near" [.loc 1, .lst (ps.map Fo.d), .str x, wtD S g] M = .ok (.lst (qs.map Fo.d)) M' ∧ (∀ q ∈ qs, q.ok) ∧ qs.length = ps.length ∧ Deal (Rs ++ X) M' := by
  have hM : M.length = Rs.length + 2 := d.len
  have hlen : (wd (NL.filter S) g).length ≤ 1000000 := by
    unfold wd
    rw [List.length_map]
    exact Nat.le_trans (List.length_filter_le _ _) (by decide)
  have k0 := dict_lst (m := true) (l := NL.filter S) (g := g) (M := M) (NL_nd.sublist List.filter_sublist)
  rw [hM] at k0
  have d0 : Deal (Rs ++ [.dct (wd (NL.filter S) g)]) (M ++ [.dct (wd (NL.filter S) g)]) := d.more _
  obtain ⟨r, M1, a1, d1, r0, r1⟩ := law_any_ok (n := n + 1) (bound := 41) d0 (by decide) (by decide +kernel)
  obtain ⟨at1, d2⟩ := d1.put0 (w := .dct (putD (Sum.inr x) (.int (r - 20)) (wd (NL.filter S) g)))
  have si := si_dct (x := x) (v := .int (r - 20)) at1 hlen
  have hW : WK (putD (Sum.inr x) (.int (r - 20)) (wd (NL.filter S) g)) fun m => if m = x then r - 20 else gW S g m := put_WK wd_WK
  have hG2 : ∀ m ∈ NL, ((fun m => if m = x then r - 20 else gW S g m) m).natAbs < 2 ^ 100 := fun m hm => by
    show (if m = x then r - 20 else gW S g m).natAbs < 2 ^ 100
    split
    · omega
    · exact hG m hm
  obtain ⟨ys, M3, e3, d3, hf⟩ := comp_draw (t := .n 5) (el := fun env M => evE (callN T (n + 2)) f_law_near_c0 env M) (env := [some (.loc 1), some (.lst (ps.map Fo.d)), some (.str x), some (wtD S g), some (.loc (Rs.length + 2)), none]) (R := fun _ y => ∃ q : Fo, y = q.d ∧ q.ok) (items := ps.map Fo.d) d2 (by
    intro z hz M dl
    obtain ⟨p, hpm, rfl⟩ := List.mem_map.mp hz
    have at4 : M[Rs.length + 2]? = some (.dct (putD (Sum.inr x) (.int (r - 20)) (wd (NL.filter S) g))) := (dl.put0 (w := .dead)).1
    have k := worth_of_gen (n := n + 1) (c := p.c) (f := p.f) at4 hW fun m hm => mul1 ((hp p hpm).f m hm) (by decide) (hG2 m hm) (by decide)
    rw [← law_worth_is] at k
    obtain ⟨v, hv, M', g1, g2⟩ := law_of_ok (n := n) (xs := nearL) dl (by decide) (by decide)
    obtain ⟨i, rfl, hi⟩ := near_ok v hv
    unfold nearL at g1
    have hw := wv_small (b := 110) (k := 100) (hp p hpm) hG2
    generalize wv p.c p.f (fun m => if m = x then r - 20 else gW S g m) = w at *
    refine ⟨_, (Fo.mk (p.c - w + i) p.f).d, M', rfl, ?_, g2, ⟨p.c - w + i, p.f⟩, rfl, ⟨?_, fun m hm => up ((hp p hpm).f m hm) (by decide)⟩⟩
    · simp only [Fo.d, fmD] at k ⊢
      simp [f_law_near_c0, k, g1]
    · exact up (abs_add (a := 216) (abs_sub (a := 215) (up (hp p hpm).c (by decide)) hw) (up hi (by decide))) (by decide))
  obtain ⟨qs, rfl, q1, q2⟩ := fos_of hf
  refine ⟨qs, _, M3, ?_, q1, q2, d3⟩
  refine free_call (fn := f_law_near) (by kernel_rfl) rfl rfl ?_
  have s1 : evS (callN T (n + 2)) (.asg (.n 4) (.bi .dict true (.cons (.bi .list false (.cons (.var 3) .nil)) .nil))) [some (.loc 1), some (.lst (ps.map Fo.d)), some (.str x), some (wtD S g), none, none] M = .ok (.nx [some (.loc 1), some (.lst (ps.map Fo.d)), some (.str x), some (wtD S g), some (.loc (Rs.length + 2)), none]) (M ++ [.dct (wd (NL.filter S) g)]) := by
    have e : biD .list false [wtD S g] M = .ok (.lst (prsD (NL.filter S) g)) M := rfl
    simp [e, k0]
  have s2 : evS (callN T (n + 2)) (.asgIx (.var 4) (.var 2) (.bin .sub (.call "_law_any" (.cons (.var 0) (.cons (.cst (.int 41)) .nil))) (.cst (.int 20)))) [some (.loc 1), some (.lst (ps.map Fo.d)), some (.str x), some (wtD S g), some (.loc (Rs.length + 2)), none] (M ++ [.dct (wd (NL.filter S) g)]) = .ok (.nx [some (.loc 1), some (.lst (ps.map Fo.d)), some (.str x), some (wtD S g), some (.loc (Rs.length + 2)), none]) (M1.set (Rs.length + 2) (.dct (putD (Sum.inr x) (.int (r - 20)) (wd (NL.filter S) g)))) := by
    simp [a1, si]
  unfold f_law_near
  dsimp only
  rw [show ([D.loc 1, .lst (ps.map Fo.d), .str x, wtD S g].map some ++ List.replicate (6 - 4) none) = [some (.loc 1), some (.lst (ps.map Fo.d)), some (.str x), some (wtD S g), none, none] from rfl, stepS s1, stepS s2]
  refine stepR ?_
  simp
  rw [e3]
  simp
/-! ### what is no sequence of forms, no unknown, no worths -/
theorem unk_no {y : D} (h : y ∈ [D.str "", .str "X", .int 3, .non, .str "nnnnnnnnnnnnnnnnnnnnnnnnnnnnnnnnnnnnnnnnnnnnnnnnnnnnnnnnnnnnn"]) : Calc (callN T (n + 1)) "is_unknown" [y] (.bl false) := by
  have b1 : unkB "" = false ∧ fitLen (("" : Str)).length = true := by decide +kernel
  have b2 : unkB "X" = false ∧ fitLen (("X" : Str)).length = true := by decide +kernel
  have b3 : unkB "nnnnnnnnnnnnnnnnnnnnnnnnnnnnnnnnnnnnnnnnnnnnnnnnnnnnnnnnnnnnn" = false ∧ fitLen (("nnnnnnnnnnnnnnnnnnnnnnnnnnnnnnnnnnnnnnnnnnnnnnnnnnnnnnnnnnnnn" : Str)).length = true := by decide +kernel
  simp only [List.mem_cons, List.not_mem_nil, or_false] at h
  rcases h with rfl | rfl | rfl | rfl | rfl
  · rw [← b1.1]; exact is_unknown_all b1.2
  · rw [← b2.1]; exact is_unknown_all b2.2
  · exact own_call (fn := f_is_unknown) (by kernel_rfl) rfl rfl rfl fun M => ⟨[], by rw [List.append_nil]; simp [f_is_unknown]⟩
  · exact own_call (fn := f_is_unknown) (by kernel_rfl) rfl rfl rfl fun M => ⟨[], by rw [List.append_nil]; simp [f_is_unknown]⟩
  · rw [← b3.1]; exact is_unknown_all b3.2
theorem int_bool {b : Bool} : Calc (callN T (n + 1)) "is_integer" [.bl b] (.bl false) :=
  own_call (fn := f_is_integer) (by kernel_rfl) rfl rfl rfl fun M => ⟨[], by rw [List.append_nil]; rfl⟩
theorem yx_ok : Calc (callN T (n + 1)) "are_ascending" [.lst [.str "y", .str "x"]] (.bl false) := by
  refine own_call (fn := f_are_ascending) (by kernel_rfl) rfl rfl rfl fun M => ⟨[], ?_⟩
  rw [List.append_nil]
  have hc : cut [D.str "y", D.str "x"] (some 1) none = [D.str "x"] := cut_from (k := 1)
  have h1 : ltStr "y" "x" = false := by decide +kernel
  have h2 : ∀ env : En, env = [some (.lst [.str "y", .str "x"]), none, none] → compGo (.t [1, 2]) (fun _ M => .ok true M) (fun env M => evE (callN T n) f_are_ascending_c0 env M) env [.pr [.str "y", .str "x"]] M = .ok [.bl false] M := by
    rintro env rfl
    unfold compGo
    simp [f_are_ascending_c0, h1]
    unfold compGo
    simp
  have h3 : biD .all false [.lst [.bl false]] M = .ok (.bl false) M := rfl
  simp [f_are_ascending, slcD, hc, zipD]
  rw [h2 _ rfl]
  simp [h3]
def worses : List D := [.non, .lst [], .tup [.tup [.str "x", .bl true]], .tup [.tup [.str "y", .int 1], .tup [.str "x", .int 2]], .tup [.tup [.str "x"]]]
/-- what is no worths, however many are let by -/
theorem no_worths {m : Int} (hm : 2 ≤ m) {d : D} (hd : d ∈ D.tup [.tup [.str "X", .int 1]] :: .tup [.tup [.str "y", .int 1], .tup [.str "x", .int 1]] :: worses) : Calc (callN T (n + 2)) "are_worths" [d, .int m] (.bl false) := by
  have ux := is_unknown_ok (n := n) (x := "x") (by decide +kernel)
  have uy := is_unknown_ok (n := n) (x := "y") (by decide +kernel)
  have uX := unk_no (n := n) (y := .str "X") (by simp)
  have m1 : ¬ (m < 1) := by omega
  have m2 : ¬ (m < 2) := by omega
  have yx : ∀ k : Int, Calc (callN T (n + 2)) "are_worths" [.tup [.tup [.str "y", .int 1], .tup [.str "x", .int k]], .int m] (.bl false) := fun k => by
    refine own_call (fn := f_are_worths) (by kernel_rfl) rfl rfl rfl fun M => ⟨[], ?_⟩
    rw [List.append_nil]
    have h1 := ux M
    have h2 := uy M
    have h3 := is_integer_ok (n := n) (i := 1) M
    have h5 := is_integer_ok (n := n) (i := k) M
    have h4 := yx_ok (n := n) M
    have e : forGo (.n 2) (fun env M => evSs (callN T (n + 1)) f_are_worths_b0 env M) [.tup [.str "y", .int 1], .tup [.str "x", .int k]] [some (.tup [.tup [.str "y", .int 1], .tup [.str "x", .int k]]), some (.int m), none] M = .ok (.nx [some (.tup [.tup [.str "y", .int 1], .tup [.str "x", .int k]]), some (.int m), some (.tup [.str "x", .int k])]) M := by
      unfold forGo
      simp [f_are_worths_b0, h2, h3]
      unfold forGo
      simp [f_are_worths_b0, h1, h5]
      unfold forGo
      simp
    have c : compGo (.n 2) (fun _ M => .ok true M) (fun env M => evE (callN T (n + 1)) f_are_worths_c0 env M) [some (.tup [.tup [.str "y", .int 1], .tup [.str "x", .int k]]), some (.int m), none] [.tup [.str "y", .int 1], .tup [.str "x", .int k]] M = .ok [.str "y", .str "x"] M := by
      unfold compGo
      simp [f_are_worths_c0]
      unfold compGo
      simp [f_are_worths_c0]
      unfold compGo
      simp
    simp [f_are_worths, m2]
    rw [e]
    simp
    rw [c]
    simp [h4]
  simp only [worses, List.mem_cons, List.not_mem_nil, or_false] at hd
  rcases hd with rfl | rfl | rfl | rfl | rfl | rfl | rfl
  · refine own_call (fn := f_are_worths) (by kernel_rfl) rfl rfl rfl fun M => ⟨[], ?_⟩
    rw [List.append_nil]
    have h1 := uX M
    have e : forGo (.n 2) (fun env M => evSs (callN T (n + 1)) f_are_worths_b0 env M) [.tup [.str "X", .int 1]] [some (.tup [.tup [.str "X", .int 1]]), some (.int m), none] M = .ok (.ret (.bl false)) M := by
      unfold forGo
      simp [f_are_worths_b0, h1]
    simp [f_are_worths, m1]
    rw [e]
    simp
  · exact yx 1
  · refine own_call (fn := f_are_worths) (by kernel_rfl) rfl rfl rfl fun M => ⟨[], ?_⟩
    rw [List.append_nil]
    simp [f_are_worths]
  · refine own_call (fn := f_are_worths) (by kernel_rfl) rfl rfl rfl fun M => ⟨[], ?_⟩
    rw [List.append_nil]
    simp [f_are_worths]
  · refine own_call (fn := f_are_worths) (by kernel_rfl) rfl rfl rfl fun M => ⟨[], ?_⟩
    rw [List.append_nil]
    have h1 := ux M
    have h3 := int_bool (n := n) (b := true) M
    have e : forGo (.n 2) (fun env M => evSs (callN T (n + 1)) f_are_worths_b0 env M) [.tup [.str "x", .bl true]] [some (.tup [.tup [.str "x", .bl true]]), some (.int m), none] M = .ok (.ret (.bl false)) M := by
      unfold forGo
      simp [f_are_worths_b0, h1, h3]
    simp [f_are_worths, m1]
    rw [e]
    simp
  · exact yx 2
  · refine own_call (fn := f_are_worths) (by kernel_rfl) rfl rfl rfl fun M => ⟨[], ?_⟩
    rw [List.append_nil]
    have e : forGo (.n 2) (fun env M => evSs (callN T (n + 1)) f_are_worths_b0 env M) [.tup [.str "x"]] [some (.tup [.tup [.str "x"]]), some (.int m), none] M = .ok (.ret (.bl false)) M := by
      unfold forGo
      simp [f_are_worths_b0]
    simp [f_are_worths, m1]
    rw [e]
    simp
def wrongs : List D := [.non, .int 5, .tup [.tup [.int 0, .tup []], .int 3], .lst [.tup [.int 0, .tup [.tup [.str "x", .int 0]]]], .tup [.tup [.bl true, .tup []]], .tup [.tup [.int 0, .tup [.tup [.str "y", .int 1], .tup [.str "x", .int 1]]]], .tup [.tup [.int 0, .tup [.tup [.str "X", .int 1]]]]]
theorem no_form : ∀ d ∈ [D.int 3, .tup [.int 0, .tup [.tup [.str "x", .int 0]]], .tup [.bl true, .tup []], .tup [.int 0, .tup [.tup [.str "y", .int 1], .tup [.str "x", .int 1]]], .tup [.int 0, .tup [.tup [.str "X", .int 1]]]], Calc (callN T (n + 3)) "is_form" [d] (.bl false) := by
  intro d hd
  simp only [List.mem_cons, List.not_mem_nil, or_false] at hd
  rcases hd with rfl | rfl | rfl | rfl | rfl
  all_goals refine own_call (fn := f_is_form) (by kernel_rfl) rfl rfl rfl fun M => ⟨[], ?_⟩
  all_goals rw [List.append_nil]
  · simp [f_is_form]
  · have h1 := is_integer_ok (n := n + 1) (i := 0) M
    have h2 := worths_ok (n := n) (l := ["x"]) (g := fun _ => 0) (most := 200) (by
      have : (["x"] : List Str).Sublist NL := by
        have h : (["x"] : List Str) = NL.filter fun m => decide (m = ("x" : Str)) := (filter_one (x := ("x" : Str)) NL_nd (by decide +kernel)).symm
        rw [h]
        exact List.filter_sublist
      exact this) (by decide) M
    have h2 : callN T (n + 2) "are_worths" [.tup [.tup [.str "x", .int 0]], .int 200] M = .ok (.bl true) M := h2
    have e : compGo (.n 1) (fun _ M => .ok true M) (fun env M => evE (callN T (n + 2)) f_is_form_c0 env M) [some (.tup [.int 0, .tup [.tup [.str "x", .int 0]]]), none] [.tup [.str "x", .int 0]] M = .ok [.bl false] M := by
      unfold compGo
      simp [f_is_form_c0]
      unfold compGo
      simp
    have h3 : biD .all false [.lst [.bl false]] M = .ok (.bl false) M := rfl
    simp [f_is_form, h1, h2]
    rw [e]
    simp [h3]
  · have h1 := int_bool (n := n + 1) (b := true) M
    simp [f_is_form, h1]
  · have h1 := is_integer_ok (n := n + 1) (i := 0) M
    have h2 := no_worths (n := n) (m := 200) (by decide) (d := .tup [.tup [.str "y", .int 1], .tup [.str "x", .int 1]]) (by simp) M
    simp [f_is_form, h1, h2]
  · have h1 := is_integer_ok (n := n + 1) (i := 0) M
    have h2 := no_worths (n := n) (m := 200) (by decide) (d := .tup [.tup [.str "X", .int 1]]) (by simp) M
    simp [f_is_form, h1, h2]
theorem no_forms {k : Int} {w : D} (hw : w ∈ wrongs) : CalcX (callN T (n + 4)) "checked_forms" [w, .int k] "InvalidForm" (.int k) := by
  have one : ∀ {d : D}, d ∈ [D.int 3, .tup [.int 0, .tup [.tup [.str "x", .int 0]]], .tup [.bl true, .tup []], .tup [.int 0, .tup [.tup [.str "y", .int 1], .tup [.str "x", .int 1]]], .tup [.int 0, .tup [.tup [.str "X", .int 1]]]] → ∀ {s : D}, IsSeq s [d] → CalcX (callN T (n + 4)) "checked_forms" [s, .int k] "InvalidForm" (.int k) := by
    intro d hd s hs
    refine own_exc (fn := f_checked_forms) (by kernel_rfl) rfl rfl rfl fun M => ⟨[some s, some (.int k), none], [], ?_⟩
    rw [List.append_nil]
    have h1 := no_form (n := n) d hd M
    have h2 := seq_ok (n := n + 2) hs M
    have e : compGo (.n 2) (fun _ M => .ok true M) (fun env M => evE (callN T (n + 3)) f_checked_forms_c0 env M) [some s, some (.int k), none] [d] M = .ok [.bl false] M := by
      unfold compGo
      simp [f_checked_forms_c0, h1]
      unfold compGo
      simp
    have h3 : biD .all false [.lst [.bl false]] M = .ok (.bl false) M := rfl
    simp [f_checked_forms, h2, hs.walk]
    rw [e]
    simp [h3]
  simp only [wrongs, List.mem_cons, List.not_mem_nil, or_false] at hw
  rcases hw with rfl | rfl | rfl | rfl | rfl | rfl | rfl
  · refine own_exc (fn := f_checked_forms) (by kernel_rfl) rfl rfl rfl fun M => ⟨[some .non, some (.int k), none], [], ?_⟩
    rw [List.append_nil]
    have h2 : callN T (n + 3) "is_sequence" [.non] M = .ok (.bl false) M := own_callM (fn := f_is_sequence) (by kernel_rfl) rfl rfl rfl ⟨[], by rw [List.append_nil]; simp [f_is_sequence]⟩
    simp [f_checked_forms, h2]
  · refine own_exc (fn := f_checked_forms) (by kernel_rfl) rfl rfl rfl fun M => ⟨[some (.int 5), some (.int k), none], [], ?_⟩
    rw [List.append_nil]
    have h2 : callN T (n + 3) "is_sequence" [.int 5] M = .ok (.bl false) M := own_callM (fn := f_is_sequence) (by kernel_rfl) rfl rfl rfl ⟨[], by rw [List.append_nil]; simp [f_is_sequence]⟩
    simp [f_checked_forms, h2]
  · refine own_exc (fn := f_checked_forms) (by kernel_rfl) rfl rfl rfl fun M => ⟨[some (.tup [.tup [.int 0, .tup []], .int 3]), some (.int k), none], [], ?_⟩
    rw [List.append_nil]
    have h0 := is_form_ok (n := n) (c := 0) (f := fun _ => 0) M
    rw [← const_d] at h0
    have h1 := no_form (n := n) (.int 3) (by simp) M
    have h2 := seq_ok (n := n + 2) (s := .tup [.tup [.int 0, .tup []], .int 3]) (.inl rfl) M
    have e : compGo (.n 2) (fun _ M => .ok true M) (fun env M => evE (callN T (n + 3)) f_checked_forms_c0 env M) [some (.tup [.tup [.int 0, .tup []], .int 3]), some (.int k), none] [.tup [.int 0, .tup []], .int 3] M = .ok [.bl true, .bl false] M := by
      unfold compGo
      simp [f_checked_forms_c0, h0]
      unfold compGo
      simp [f_checked_forms_c0, h1]
      unfold compGo
      simp
    have h3 : biD .all false [.lst [.bl true, .bl false]] M = .ok (.bl false) M := rfl
    simp [f_checked_forms, h2]
    rw [e]
    simp [h3]
  · exact one (d := .tup [.int 0, .tup [.tup [.str "x", .int 0]]]) (by simp) (.inr rfl)
  · exact one (d := .tup [.bl true, .tup []]) (by simp) (.inl rfl)
  · exact one (d := .tup [.int 0, .tup [.tup [.str "y", .int 1], .tup [.str "x", .int 1]]]) (by simp) (.inl rfl)
  · exact one (d := .tup [.int 0, .tup [.tup [.str "X", .int 1]]]) (by simp) (.inl rfl)
theorem ask_no {w y : D} (hw : w ∈ wrongs) : CalcX (callN T (n + 5)) "checked_question" [w, y] "InvalidForm" (.int 0) := by
  refine own_exc (fn := f_checked_question) (by kernel_rfl) rfl rfl rfl fun M => ⟨[some w, some y], [], ?_⟩
  rw [List.append_nil]
  simp [f_checked_question, no_forms (n := n) (k := 0) hw M]
theorem ask_no2 {s y : D} {ps : List Fo} (h : IsSeq s (ps.map Fo.d)) (hy : Calc (callN T (n + 4)) "is_unknown" [y] (.bl false)) : CalcX (callN T (n + 5)) "checked_question" [s, y] "InvalidQuestion" (.int 1) := by
  refine own_exc (fn := f_checked_question) (by kernel_rfl) rfl rfl rfl fun M => ⟨[some s, some y], [], ?_⟩
  rw [List.append_nil]
  simp [f_checked_question, checked_forms_ok (n := n) (k := 0) h M, hy M]
section
variable {w y z : D} {c : String} {k : Int}
theorem sh_no (h : CalcX (callN T (n + 5)) "checked_question" [w, y] c (.int k)) : CalcX (callN T (n + 6)) "shadow" [w, y] c (.int k) := by
  refine own_exc (fn := f_shadow) (by kernel_rfl) rfl rfl rfl fun M => ⟨[some w, some y], [], ?_⟩
  rw [List.append_nil]
  simp [f_shadow, h M]
theorem dk_no (h : CalcX (callN T (n + 5)) "checked_question" [w, y] c (.int k)) : CalcX (callN T (n + 6)) "dark_shadow" [w, y] c (.int k) := by
  refine own_exc (fn := f_dark_shadow) (by kernel_rfl) rfl rfl rfl fun M => ⟨[some w, some y], [], ?_⟩
  rw [List.append_nil]
  simp [f_dark_shadow, h M]
theorem bt_no (h : CalcX (callN T (n + 5)) "checked_question" [w, y] c (.int k)) : CalcX (callN T (n + 6)) "between" [w, y, z] c (.int k) := by
  refine own_exc (fn := f_between) (by kernel_rfl) rfl rfl rfl fun M => ⟨[some w, some y, some z, none, none, none, none], [], ?_⟩
  rw [List.append_nil]
  simp [f_between, h M]
theorem bt_no2 {s : D} {ps : List Fo} (h : IsSeq s (ps.map Fo.d)) (hx : x ∈ NL) (hz : z ∈ worses) : CalcX (callN T (n + 6)) "between" [s, .str x, z] "InvalidValue" (.int 2) := by
  refine own_exc (fn := f_between) (by kernel_rfl) rfl rfl rfl fun M => ⟨[some s, some (.str x), some z, none, none, none, none], [], ?_⟩
  rw [List.append_nil]
  have h1 := checked_question_ok (n := n) h hx M
  have h2 : CalcX (callN T (n + 5)) "checked_worths" [z, .int 2] "InvalidValue" (.int 2) := by
    refine own_exc (fn := f_checked_worths) (by kernel_rfl) rfl rfl rfl fun M => ⟨[some z, some (.int 2)], [], ?_⟩
    rw [List.append_nil]
    have h3 := no_worths (n := n + 2) (m := 2000) (by decide) (d := z) (List.mem_cons_of_mem _ (List.mem_cons_of_mem _ hz)) M
    simp [f_checked_worths, h3]
  simp [f_between, h1, h2 M]
end
theorem hear_f {M : Sto} {d : D} : hearD hf__law_heard (.exc "InvalidForm" (some d) M) = .ok (.tup [.str "form", d]) M := by
  unfold hearD
  rfl
theorem hear_q {M : Sto} {d : D} : hearD hf__law_heard (.exc "InvalidQuestion" (some d) M) = .ok (.tup [.str "question", d]) M := by
  unfold hearD
  rfl
theorem hear_v {M : Sto} {d : D} : hearD hf__law_heard (.exc "InvalidValue" (some d) M) = .ok (.tup [.str "value", d]) M := by
  unfold hearD
  rfl
end K21T
end Z


/-! K21L: the turn, the law. -/
namespace Z
namespace K21T
open PySem L2
variable {n : Nat} {Rs : Sto}
def N3 : List Str := ["x", "a#1.2", "y"]
def N4 : List Str := ["b", "z", "x_1", "c.c"]
theorem N3_NL : ∀ x ∈ N3, x ∈ NL := by decide +kernel
theorem N4_NL : ∀ x ∈ N4, x ∈ NL := by decide +kernel
theorem N34 : ∀ x ∈ N3, x ∉ N4 := by decide +kernel
theorem N4_nd : N4.Nodup := by decide +kernel
theorem fos_dats {k : Nat} : ∀ ps : List Fo, D.dats (k + 3) (ps.map Fo.d) = true
  | [] => rfl
  | p :: r => by
    show (D.dat (k + 3) (fmD p.c p.f) && D.dats (k + 3) (r.map Fo.d)) = true
    rw [fm_dat, fos_dats r]; rfl
theorem sp_dat {k : Nat} {o : Option (Option Int × Option Int)} : D.dat (k + 1) (spD o) = true := by
  cases o with
  | none => rfl
  | some p =>
    obtain ⟨a, b⟩ := p
    cases a <;> cases b <;> cases k <;> rfl
def oddL : List D := [.str "", .str "X", .int 3, .non, .str "nnnnnnnnnnnnnnnnnnnnnnnnnnnnnnnnnnnnnnnnnnnnnnnnnnnnnnnnnnnnn"]
def fo (i : Int) : D := .tup [.str "form", .int i]
def qu (i : Int) : D := .tup [.str "question", .int i]
def va (i : Int) : D := .tup [.str "value", .int i]
/-- what a turn asks of forms, however they were drawn -/
theorem ask_ok {x : Str} {p0 x2 x4 x7 x8 x9 x10 x11 x12 x13 : Option D} {ps : List Fo} {S : Str → Bool} {g : Str → Int} {M : Sto} {r : Ss} (hx : x ∈ NL) (hp : ∀ p ∈ ps, p.ok) (hl : ps.length ≤ 6) (hG : ∀ m ∈ NL, (gW S g m).natAbs < 2 ^ 100) (d : Deal Rs M)
    (hr : ∀ (s : D) (X M' : Sto), IsSeq s (ps.map Fo.d) → Deal (Rs ++ X) M' → ∃ X' M'' y10 y11 y12 y13, evSs (callN T (n + 40)) r [p0, some (.loc 1), x2, some (.str x), x4, some (wtD S g), some (.lst (ps.map Fo.d)), some s, some (.lst [.tup ((castL x false ps).map Fo.d), .tup ((castL x true ps).map Fo.d), spD (spanV x (gW S g) ps)]), some (spD (spanV x (gW S g) ps)), x10, x11, x12, x13] M' =
        .ok (.nx [p0, some (.loc 1), x2, some (.str x), x4, some (wtD S g), some (.lst (ps.map Fo.d)), some s, some (.lst [.tup ((castL x false ps).map Fo.d), .tup ((castL x true ps).map Fo.d), spD (spanV x (gW S g) ps)]), some (spD (spanV x (gW S g) ps)), y10, y11, y12, y13]) M'' ∧ Deal (Rs ++ X') M'') :
    ∃ X' M' y7 y8 y9 y10 y11 y12 y13, evSs (callN T (n + 40)) (.cons (.asg (.n 7) (.ite (.cmp .eq (.call "_law_any" (.cons (.var 1) (.cons (.cst (.int 2)) .nil))) (.cst (.int 0))) (.bi .tuple false (.cons (.var 6) .nil)) (.bi .list false (.cons (.var 6) .nil))))
      (.cons (.asg (.n 8) (.lst false (.cons (.call "shadow" (.cons (.var 7) (.cons (.var 3) .nil))) (.cons (.callk "dark_shadow" .nil ["name", "forms"] [1, 0] (.cons (.var 3) (.cons (.var 7) .nil))) (.cons (.callk "between" .nil ["forms", "name", "worths"] [] (.cons (.var 7) (.cons (.var 3) (.cons (.var 5) .nil)))) .nil)))))
      (.cons (.asg (.n 9) (.call "_law_span" (.cons (.var 6) (.cons (.var 3) (.cons (.bi .dict false (.cons (.bi .list false (.cons (.var 5) .nil)) .nil)) .nil)))))
      (.cons (.iff (.not (.call "_law_same" (.cons (.var 8) (.cons (.lst false (.cons (.call "_law_cast" (.cons (.var 6) (.cons (.var 3) (.cons (.cst (.bl false)) .nil)))) (.cons (.call "_law_cast" (.cons (.var 6) (.cons (.var 3) (.cons (.cst (.bl true)) .nil)))) (.cons (.var 9) .nil)))) .nil))))
        ((.cons (.ret (.som (.cst (.bl false)))) .nil)) .nil)
      (.cons (.iff (.not (.call "_law_kept" (.cons (.var 6) (.cons (.var 3) (.cons (.bi .dict false (.cons (.bi .list false (.cons (.var 5) .nil)) .nil)) (.cons (.var 9) .nil))))))
        ((.cons (.ret (.som (.cst (.bl false)))) .nil)) .nil) r)))))
      [p0, some (.loc 1), x2, some (.str x), x4, some (wtD S g), some (.lst (ps.map Fo.d)), x7, x8, x9, x10, x11, x12, x13] M =
        .ok (.nx [p0, some (.loc 1), x2, some (.str x), x4, some (wtD S g), some (.lst (ps.map Fo.d)), y7, y8, y9, y10, y11, y12, y13]) M' ∧ Deal (Rs ++ X') M' := by
  obtain ⟨r0, M1, a1, d1, _, _⟩ := law_any_ok (n := n + 39) (bound := 2) d (by decide) (by decide +kernel)
  obtain ⟨s, hs, e1⟩ : ∃ s, IsSeq s (ps.map Fo.d) ∧ evS (callN T (n + 40)) (.asg (.n 7) (.ite (.cmp .eq (.call "_law_any" (.cons (.var 1) (.cons (.cst (.int 2)) .nil))) (.cst (.int 0))) (.bi .tuple false (.cons (.var 6) .nil)) (.bi .list false (.cons (.var 6) .nil)))) [p0, some (.loc 1), x2, some (.str x), x4, some (wtD S g), some (.lst (ps.map Fo.d)), x7, x8, x9, x10, x11, x12, x13] M = .ok (.nx [p0, some (.loc 1), x2, some (.str x), x4, some (wtD S g), some (.lst (ps.map Fo.d)), some s, x8, x9, x10, x11, x12, x13]) M1 := by
    by_cases h0 : r0 = 0
    · exact ⟨.tup (ps.map Fo.d), .inl rfl, by simp [a1, h0]⟩
    · exact ⟨.lst (ps.map Fo.d), .inr rfl, by simp [a1, h0]⟩
  have k1 := shadow_ok (n := n + 34) hs hx hp (by omega) M1
  have k2 := dark_ok (n := n + 34) hs hx hp (by omega) M1
  have k3 := between_ok (n := n + 34) (S := S) (g := g) hs hx hG hp (by omega) M1
  have e2 : evS (callN T (n + 40)) (.asg (.n 8) (.lst false (.cons (.call "shadow" (.cons (.var 7) (.cons (.var 3) .nil))) (.cons (.callk "dark_shadow" .nil ["name", "forms"] [1, 0] (.cons (.var 3) (.cons (.var 7) .nil))) (.cons (.callk "between" .nil ["forms", "name", "worths"] [] (.cons (.var 7) (.cons (.var 3) (.cons (.var 5) .nil)))) .nil))))) [p0, some (.loc 1), x2, some (.str x), x4, some (wtD S g), some (.lst (ps.map Fo.d)), some s, x8, x9, x10, x11, x12, x13] M1 = .ok (.nx [p0, some (.loc 1), x2, some (.str x), x4, some (wtD S g), some (.lst (ps.map Fo.d)), some s, some (.lst [.tup ((castL x false ps).map Fo.d), .tup ((castL x true ps).map Fo.d), spD (spanV x (gW S g) ps)]), x9, x10, x11, x12, x13]) M1 := by
    have pm : permL [1, 0] [D.str x, s] = [s, .str x] := rfl
    simp [k1, pm, k2, k3]
  have el : ∀ M, biD .list false [wtD S g] M = .ok (.lst (prsD (NL.filter S) g)) M := fun _ => rfl
  have dl : ∀ M, biD .dict false [.lst (prsD (NL.filter S) g)] M = .ok (.loc M.length) (M ++ [.dct (wd (NL.filter S) g)]) := fun M => dict_lst (NL_nd.sublist List.filter_sublist)
  have hM2 := at_last (M := M1) (o := .dct (wd (NL.filter S) g))
  have k4 := law_span_ok (n := n + 38) hx hM2 hG hp
  have e3 : evS (callN T (n + 40)) (.asg (.n 9) (.call "_law_span" (.cons (.var 6) (.cons (.var 3) (.cons (.bi .dict false (.cons (.bi .list false (.cons (.var 5) .nil)) .nil)) .nil))))) [p0, some (.loc 1), x2, some (.str x), x4, some (wtD S g), some (.lst (ps.map Fo.d)), some s, some (.lst [.tup ((castL x false ps).map Fo.d), .tup ((castL x true ps).map Fo.d), spD (spanV x (gW S g) ps)]), x9, x10, x11, x12, x13] M1 = .ok (.nx [p0, some (.loc 1), x2, some (.str x), x4, some (wtD S g), some (.lst (ps.map Fo.d)), some s, some (.lst [.tup ((castL x false ps).map Fo.d), .tup ((castL x true ps).map Fo.d), spD (spanV x (gW S g) ps)]), some (spD (spanV x (gW S g) ps)), x10, x11, x12, x13]) (M1 ++ [.dct (wd (NL.filter S) g)]) := by
    simp [el, dl, k4]
  have d2 : Deal (Rs ++ [.dct (wd (NL.filter S) g)]) (M1 ++ [.dct (wd (NL.filter S) g)]) := d1.more _
  generalize hM3 : M1 ++ [.dct (wd (NL.filter S) g)] = M3 at *
  have c1 := law_cast_ok (n := n + 38) (dark := false) hx hp (by omega) M3
  have c2 := law_cast_ok (n := n + 38) (dark := true) hx hp (by omega) M3
  have sm := law_same_ok (k := 6) (n := n + 33) (d := .lst [.tup ((castL x false ps).map Fo.d), .tup ((castL x true ps).map Fo.d), spD (spanV x (gW S g) ps)]) (by
    show (D.dats 4 ((castL x false ps).map Fo.d) && (D.dats 4 ((castL x true ps).map Fo.d) && (D.dat 5 (spD (spanV x (gW S g) ps)) && true))) = true
    rw [fos_dats (k := 1), fos_dats (k := 1), sp_dat (k := 4)]; rfl) M3
  have e4 : evS (callN T (n + 40)) (.iff (.not (.call "_law_same" (.cons (.var 8) (.cons (.lst false (.cons (.call "_law_cast" (.cons (.var 6) (.cons (.var 3) (.cons (.cst (.bl false)) .nil)))) (.cons (.call "_law_cast" (.cons (.var 6) (.cons (.var 3) (.cons (.cst (.bl true)) .nil)))) (.cons (.var 9) .nil)))) .nil)))) (.cons (.ret (.som (.cst (.bl false)))) .nil) .nil) [p0, some (.loc 1), x2, some (.str x), x4, some (wtD S g), some (.lst (ps.map Fo.d)), some s, some (.lst [.tup ((castL x false ps).map Fo.d), .tup ((castL x true ps).map Fo.d), spD (spanV x (gW S g) ps)]), some (spD (spanV x (gW S g) ps)), x10, x11, x12, x13] M3 = .ok (.nx [p0, some (.loc 1), x2, some (.str x), x4, some (wtD S g), some (.lst (ps.map Fo.d)), some s, some (.lst [.tup ((castL x false ps).map Fo.d), .tup ((castL x true ps).map Fo.d), spD (spanV x (gW S g) ps)]), some (spD (spanV x (gW S g) ps)), x10, x11, x12, x13]) M3 := by
    simp [c1, c2, sm]
  have k5 := law_kept_ok (n := n + 37) hx (at_last (M := M3) (o := .dct (wd (NL.filter S) g))) hG hp (by omega)
  have e5 : evS (callN T (n + 40)) (.iff (.not (.call "_law_kept" (.cons (.var 6) (.cons (.var 3) (.cons (.bi .dict false (.cons (.bi .list false (.cons (.var 5) .nil)) .nil)) (.cons (.var 9) .nil)))))) (.cons (.ret (.som (.cst (.bl false)))) .nil) .nil) [p0, some (.loc 1), x2, some (.str x), x4, some (wtD S g), some (.lst (ps.map Fo.d)), some s, some (.lst [.tup ((castL x false ps).map Fo.d), .tup ((castL x true ps).map Fo.d), spD (spanV x (gW S g) ps)]), some (spD (spanV x (gW S g) ps)), x10, x11, x12, x13] M3 = .ok (.nx [p0, some (.loc 1), x2, some (.str x), x4, some (wtD S g), some (.lst (ps.map Fo.d)), some s, some (.lst [.tup ((castL x false ps).map Fo.d), .tup ((castL x true ps).map Fo.d), spD (spanV x (gW S g) ps)]), some (spD (spanV x (gW S g) ps)), x10, x11, x12, x13]) (M3 ++ [.dct (wd (NL.filter S) g)]) := by
    simp [el, dl, k5]
  obtain ⟨X', M'', y10, y11, y12, y13, e6, d6⟩ := hr s _ _ hs (by have z := d2.more [.dct (wd (NL.filter S) g)]; rw [List.append_assoc] at z; exact z)
  refine ⟨X', M'', some s, some (.lst [.tup ((castL x false ps).map Fo.d), .tup ((castL x true ps).map Fo.d), spD (spanV x (gW S g) ps)]), some (spD (spanV x (gW S g) ps)), y10, y11, y12, y13, ?_, d6⟩
  rw [stepS e1, stepS e2, stepS e3, stepS e4, stepS e5]
  exact e6
/-- what is refused -/
theorem refused_ok {x : Str} {p0 x2 x4 x7 x8 x9 x10 x11 x12 x13 : Option D} {ps : List Fo} {M : Sto} {w5 : D} (hx : x ∈ NL) (d : Deal Rs M) :
    ∃ X' M' y10 y11 y12 y13, evSs (callN T (n + 40)) (.cons (.asg (.t [11, 12, 13]) (.tup (.cons (.call "_law_forms_wrong" (.cons (.var 1) .nil)) (.cons (.call "_law_of" (.cons (.var 1) (.cons (.lst false (.cons (.cst (.str "")) (.cons (.cst (.str "X")) (.cons (.cst (.int 3)) (.cons (.cst .non) (.cons (.bin .mul (.cst (.str "n")) (.cst (.int 61))) .nil)))))) .nil))) (.cons (.call "_law_of" (.cons (.var 1) (.cons (.lst false (.cons (.cst .non) (.cons (.lst false .nil) (.cons (.tup (.cons (.tup (.cons (.cst (.str "x")) (.cons (.cst (.bl true)) .nil))) .nil)) (.cons (.tup (.cons (.tup (.cons (.cst (.str "y")) (.cons (.cst (.int 1)) .nil))) (.cons (.tup (.cons (.cst (.str "x")) (.cons (.cst (.int 2)) .nil))) .nil))) (.cons (.tup (.cons (.tup (.cons (.cst (.str "x")) .nil)) .nil)) .nil)))))) .nil))) .nil)))))
      (.cons (.asg (.n 10) (.lst true (.cons (.heard "_law_heard" hf__law_heard (.call "shadow" (.cons (.var 11) (.cons (.var 12) .nil)))) .nil)))
      (.cons (.ex (.mth .append (.var 10) (.cons (.heard "_law_heard" hf__law_heard (.call "dark_shadow" (.cons (.var 11) (.cons (.var 12) .nil)))) .nil)))
      (.cons (.ex (.mth .append (.var 10) (.cons (.heard "_law_heard" hf__law_heard (.call "between" (.cons (.var 11) (.cons (.var 12) (.cons (.var 13) .nil))))) .nil)))
      (.cons (.ex (.mth .append (.var 10) (.cons (.heard "_law_heard" hf__law_heard (.call "shadow" (.cons (.var 6) (.cons (.var 12) .nil)))) .nil)))
      (.cons (.ex (.mth .append (.var 10) (.cons (.heard "_law_heard" hf__law_heard (.call "dark_shadow" (.cons (.var 6) (.cons (.var 12) .nil)))) .nil)))
      (.cons (.ex (.mth .append (.var 10) (.cons (.heard "_law_heard" hf__law_heard (.call "between" (.cons (.var 6) (.cons (.var 12) (.cons (.var 13) .nil))))) .nil)))
      (.cons (.ex (.mth .append (.var 10) (.cons (.heard "_law_heard" hf__law_heard (.call "between" (.cons (.var 6) (.cons (.var 3) (.cons (.var 13) .nil))))) .nil)))
      (.cons (.iff (.not (.call "_law_same" (.cons (.frz (.var 10)) (.cons (.bin .add (.bin .add (.bin .mul (.lst false (.cons (.tup (.cons (.cst (.str "form")) (.cons (.cst (.int 0)) .nil))) .nil)) (.cst (.int 3))) (.bin .mul (.lst false (.cons (.tup (.cons (.cst (.str "question")) (.cons (.cst (.int 1)) .nil))) .nil)) (.cst (.int 3)))) (.lst false (.cons (.tup (.cons (.cst (.str "value")) (.cons (.cst (.int 2)) .nil))) .nil))) .nil))))
        ((.cons (.ret (.som (.cst (.bl false)))) .nil)) .nil) .nil)))))))))
      [p0, some (.loc 1), x2, some (.str x), x4, some w5, some (.lst (ps.map Fo.d)), x7, x8, x9, x10, x11, x12, x13] M =
        .ok (.nx [p0, some (.loc 1), x2, some (.str x), x4, some w5, some (.lst (ps.map Fo.d)), x7, x8, x9, y10, y11, y12, y13]) M' ∧ Deal (Rs ++ X') M' := by
  obtain ⟨w, hw, M1, a1, d1⟩ := law_of_ok (n := n + 37) (xs := wrongs) d (by decide) (by decide)
  obtain ⟨y, hy, M2, a2, d2⟩ := law_of_ok (n := n + 38) (xs := oddL) d1 (by decide) (by decide)
  obtain ⟨z, hz, M3, a3, d3⟩ := law_of_ok (n := n + 38) (xs := worses) d2 (by decide) (by decide)
  have fw : callN T (n + 40) "_law_forms_wrong" [.loc 1] M = .ok w M1 := by
    refine free_call (fn := f_law_forms_wrong) (by kernel_rfl) rfl rfl ?_
    unfold wrongs at a1
    simp [f_law_forms_wrong, a1]
  have k61 : ∀ M, binD .mul (.str "n") (.int 61) M = .ok (.str "nnnnnnnnnnnnnnnnnnnnnnnnnnnnnnnnnnnnnnnnnnnnnnnnnnnnnnnnnnnnn") M := fun M => by kernel_rfl
  have hs : IsSeq (.lst (ps.map Fo.d)) (ps.map Fo.d) := .inr rfl
  have hM : M3.length = Rs.length + 2 := d3.len
  have q1 : CalcX (callN T (n + 39)) "checked_question" [w, y] "InvalidForm" (.int 0) := ask_no (n := n + 34) hw
  have q2 : CalcX (callN T (n + 39)) "checked_question" [.lst (ps.map Fo.d), y] "InvalidQuestion" (.int 1) := ask_no2 (n := n + 34) hs (unk_no (n := n + 37) hy)
  have z1 : CalcX (callN T (n + 40)) "shadow" [w, y] "InvalidForm" (.int 0) := sh_no (n := n + 34) q1
  have z2 : CalcX (callN T (n + 40)) "dark_shadow" [w, y] "InvalidForm" (.int 0) := dk_no (n := n + 34) q1
  have z3 : CalcX (callN T (n + 40)) "between" [w, y, z] "InvalidForm" (.int 0) := bt_no (n := n + 34) q1
  have z4 : CalcX (callN T (n + 40)) "shadow" [.lst (ps.map Fo.d), y] "InvalidQuestion" (.int 1) := sh_no (n := n + 34) q2
  have z5 : CalcX (callN T (n + 40)) "dark_shadow" [.lst (ps.map Fo.d), y] "InvalidQuestion" (.int 1) := dk_no (n := n + 34) q2
  have z6 : CalcX (callN T (n + 40)) "between" [.lst (ps.map Fo.d), y, z] "InvalidQuestion" (.int 1) := bt_no (n := n + 34) q2
  have z7 : CalcX (callN T (n + 40)) "between" [.lst (ps.map Fo.d), .str x, z] "InvalidValue" (.int 2) := bt_no2 (n := n + 34) hs hx hz
  have s1 : evS (callN T (n + 40)) (.asg (.t [11, 12, 13]) (.tup (.cons (.call "_law_forms_wrong" (.cons (.var 1) .nil)) (.cons (.call "_law_of" (.cons (.var 1) (.cons (.lst false (.cons (.cst (.str "")) (.cons (.cst (.str "X")) (.cons (.cst (.int 3)) (.cons (.cst .non) (.cons (.bin .mul (.cst (.str "n")) (.cst (.int 61))) .nil)))))) .nil))) (.cons (.call "_law_of" (.cons (.var 1) (.cons (.lst false (.cons (.cst .non) (.cons (.lst false .nil) (.cons (.tup (.cons (.tup (.cons (.cst (.str "x")) (.cons (.cst (.bl true)) .nil))) .nil)) (.cons (.tup (.cons (.tup (.cons (.cst (.str "y")) (.cons (.cst (.int 1)) .nil))) (.cons (.tup (.cons (.cst (.str "x")) (.cons (.cst (.int 2)) .nil))) .nil))) (.cons (.tup (.cons (.tup (.cons (.cst (.str "x")) .nil)) .nil)) .nil)))))) .nil))) .nil))))) [p0, some (.loc 1), x2, some (.str x), x4, some w5, some (.lst (ps.map Fo.d)), x7, x8, x9, x10, x11, x12, x13] M = .ok (.nx [p0, some (.loc 1), x2, some (.str x), x4, some w5, some (.lst (ps.map Fo.d)), x7, x8, x9, x10, some w, some y, some z]) M3 := by
    unfold oddL at a2
    unfold worses at a3
    simp [fw, k61, a2, a3]
  rw [stepS s1]
  clear s1 a1 a2 a3 fw
  have st : ∀ (l : List D) (e : E) (t : D) (M : Sto), l.length ≤ 10 → M = M3 ++ [.lst l] → hearD hf__law_heard (evE (callN T (n + 40)) e [p0, some (.loc 1), x2, some (.str x), x4, some w5, some (.lst (ps.map Fo.d)), x7, x8, x9, some (.loc M3.length), some w, some y, some z] M) = .ok t M →
      evS (callN T (n + 40)) (.ex (.mth .append (.var 10) (.cons (.heard "_law_heard" hf__law_heard e) .nil))) [p0, some (.loc 1), x2, some (.str x), x4, some w5, some (.lst (ps.map Fo.d)), x7, x8, x9, some (.loc M3.length), some w, some y, some z] M = .ok (.nx [p0, some (.loc 1), x2, some (.str x), x4, some w5, some (.lst (ps.map Fo.d)), x7, x8, x9, some (.loc M3.length), some w, some y, some z]) (M3 ++ [.lst (l ++ [t])]) := by
    rintro l e t M hl rfl he
    have g1 := kd_append (at_last (M := M3) (o := .lst l))
    have g2 := app_last (M := M3) (l := l) (d := t) (by omega)
    rw [es_ex, ev_mth]
    simp only [ev_var, ev_cons, ev_nil, ev_heard, he, bind_ok, List.getElem?_cons_succ, List.getElem?_cons_zero, g1, if_true, g2, out_ok]
  have s2 : evS (callN T (n + 40)) (.asg (.n 10) (.lst true (.cons (.heard "_law_heard" hf__law_heard (.call "shadow" (.cons (.var 11) (.cons (.var 12) .nil)))) .nil))) [p0, some (.loc 1), x2, some (.str x), x4, some w5, some (.lst (ps.map Fo.d)), x7, x8, x9, x10, some w, some y, some z] M3 = .ok (.nx [p0, some (.loc 1), x2, some (.str x), x4, some w5, some (.lst (ps.map Fo.d)), x7, x8, x9, some (.loc M3.length), some w, some y, some z]) (M3 ++ [.lst [fo 0]]) := by
    simp [z1 M3, hear_f, fo]
  have s3 := st [fo 0] (.call "dark_shadow" (.cons (.var 11) (.cons (.var 12) .nil))) (fo 0) _ (by decide) rfl (by show hearD hf__law_heard (callN T (n + 40) "dark_shadow" [w, y] _) = _; rw [z2]; exact hear_f)
  have s4 := st [fo 0, fo 0] (.call "between" (.cons (.var 11) (.cons (.var 12) (.cons (.var 13) .nil)))) (fo 0) _ (by decide) rfl (by show hearD hf__law_heard (callN T (n + 40) "between" [w, y, z] _) = _; rw [z3]; exact hear_f)
  have s5 := st [fo 0, fo 0, fo 0] (.call "shadow" (.cons (.var 6) (.cons (.var 12) .nil))) (qu 1) _ (by decide) rfl (by show hearD hf__law_heard (callN T (n + 40) "shadow" [.lst (ps.map Fo.d), y] _) = _; rw [z4]; exact hear_q)
  have s6 := st [fo 0, fo 0, fo 0, qu 1] (.call "dark_shadow" (.cons (.var 6) (.cons (.var 12) .nil))) (qu 1) _ (by decide) rfl (by show hearD hf__law_heard (callN T (n + 40) "dark_shadow" [.lst (ps.map Fo.d), y] _) = _; rw [z5]; exact hear_q)
  have s7 := st [fo 0, fo 0, fo 0, qu 1, qu 1] (.call "between" (.cons (.var 6) (.cons (.var 12) (.cons (.var 13) .nil)))) (qu 1) _ (by decide) rfl (by show hearD hf__law_heard (callN T (n + 40) "between" [.lst (ps.map Fo.d), y, z] _) = _; rw [z6]; exact hear_q)
  have s8 := st [fo 0, fo 0, fo 0, qu 1, qu 1, qu 1] (.call "between" (.cons (.var 6) (.cons (.var 3) (.cons (.var 13) .nil)))) (va 2) _ (by decide) rfl (by show hearD hf__law_heard (callN T (n + 40) "between" [.lst (ps.map Fo.d), .str x, z] _) = _; rw [z7]; exact hear_v)
  simp only [List.cons_append, List.nil_append] at s3 s4 s5 s6 s7 s8
  have fz := frz_at (at_last (M := M3) (o := .lst [fo 0, fo 0, fo 0, qu 1, qu 1, qu 1, va 2]))
  rw [set_last] at fz
  have sm := law_same_ok (k := 3) (n := n + 36) (d := .lst [fo 0, fo 0, fo 0, qu 1, qu 1, qu 1, va 2]) rfl (M3 ++ [.dead])
  have r1 : ∀ M, binD .mul (.lst [.tup [.str "form", .int 0]]) (.int 3) M = .ok (.lst [fo 0, fo 0, fo 0]) M := fun _ => rfl
  have r2 : ∀ M, binD .mul (.lst [.tup [.str "question", .int 1]]) (.int 3) M = .ok (.lst [qu 1, qu 1, qu 1]) M := fun _ => rfl
  have r3 : ∀ M, binD .add (.lst [fo 0, fo 0, fo 0]) (.lst [qu 1, qu 1, qu 1]) M = .ok (.lst [fo 0, fo 0, fo 0, qu 1, qu 1, qu 1]) M := fun _ => rfl
  have r4 : ∀ M, binD .add (.lst [fo 0, fo 0, fo 0, qu 1, qu 1, qu 1]) (.lst [.tup [.str "value", .int 2]]) M = .ok (.lst [fo 0, fo 0, fo 0, qu 1, qu 1, qu 1, va 2]) M := fun _ => rfl
  refine ⟨[.dead], M3 ++ [.dead], some (.loc M3.length), some w, some y, some z, ?_, d3.more _⟩
  rw [stepS s2, stepS s3, stepS s4, stepS s5, stepS s6, stepS s7, stepS s8]
  simp [fz, r1, r2, r3, r4, sm]
theorem turn_ok {p0 x2 x3 x4 x5 x6 x7 x8 x9 x10 x11 x12 x13 : Option D} {M : Sto} (d : Deal Rs M) :
    ∃ X' M' y3 y4 y5 y6 y7 y8 y9 y10 y11 y12 y13, evSs (callN T (n + 40)) f_law_b0 [p0, some (.loc 1), x2, x3, x4, x5, x6, x7, x8, x9, x10, x11, x12, x13] M = .ok (.nx [p0, some (.loc 1), x2, y3, y4, y5, y6, y7, y8, y9, y10, y11, y12, y13]) M' ∧ Deal (Rs ++ X') M' := by
  obtain ⟨dx, hx3, M1, a1, d1⟩ := law_of_ok (n := n + 38) (xs := N3.map .str) d (by decide) (by decide)
  obtain ⟨x, hx, rfl⟩ := List.mem_map.mp hx3
  have hN := N3_NL x hx
  obtain ⟨zs, X1, M2, a2, d2, hp⟩ := mixed_names (n := n + 38) (l := N4) (by decide) N4_NL d1
  obtain ⟨k, M3, a3, d3, k0, k1⟩ := law_any_ok (n := n + 39) (bound := 4) d2 (by decide) (by decide +kernel)
  have hkk : k = ((k.toNat : Nat) : Int) := by omega
  have hcut : cut (zs.map D.str) none (some k) = (zs.take k.toNat).map D.str := by
    rw [hkk, List.map_take]
    exact cut_to
  have hin : ∀ y ∈ zs.take k.toNat, y ∈ N4 := fun y hy => hp.mem_iff.mp ((List.take_sublist _ _).subset hy)
  have hnd : (zs.take k.toNat).Nodup := (hp.nodup_iff.mpr N4_nd).sublist (List.take_sublist _ _)
  have hln : (zs.take k.toNat).length ≤ 4 := by rw [List.length_take, hp.length_eq]; exact Nat.le_trans (Nat.min_le_right _ _) (by decide)
  generalize zs.take k.toNat = os at *
  obtain ⟨S, g, X2, M4, a4, hG, d4⟩ := law_worths_ok (n := n + 35) (l := os ++ [x]) (by rw [List.length_append]; simp; omega) (List.nodup_append.mpr ⟨hnd, by simp, fun a ha b hb => by
    rw [List.mem_singleton] at hb
    subst hb
    intro e
    subst e
    exact N34 _ hx (hin _ ha)⟩) (fun y hy => by
    rcases List.mem_append.mp hy with hy | hy
    · exact N4_NL y (hin y hy)
    · rw [List.mem_singleton] at hy; subst hy; exact hN) d3
  obtain ⟨ps, X3, M5, a5, hps, hpl, d5⟩ := law_bounding_ok (n := n + 33) (l := os) (by omega) hnd (fun y hy => N4_NL y (hin y hy)) hN d4
  obtain ⟨r, M6, a6, d6, _, _⟩ := law_any_ok (n := n + 39) (bound := 2) d5 (by decide) (by decide +kernel)
  have b5 : ∀ M, binD .add (.lst (os.map .str)) (.lst [.str x]) M = .ok (.lst ((os ++ [x]).map .str)) M := fun M => by
    rw [bn_cat (decide_eq_true (by rw [List.length_map]; simp; omega))]
    simp
  obtain ⟨qs, X4, M7, e5, hqs, hql, d7⟩ : ∃ (qs : List Fo) (X4 M7 : Sto), evS (callN T (n + 40)) (.iff (.cmp .eq (.call "_law_any" (.cons (.var 1) (.cons (.cst (.int 2)) .nil))) (.cst (.int 0)))
    ((.cons (.asg (.n 6) (.call "_law_near" (.cons (.var 1) (.cons (.var 6) (.cons (.var 3) (.cons (.var 5) .nil))))))
      .nil)) .nil) [p0, some (.loc 1), x2, some (.str x), some (.lst (os.map .str)), some (wtD S g), some (.lst (ps.map Fo.d)), x7, x8, x9, x10, x11, x12, x13] M5 = .ok (.nx [p0, some (.loc 1), x2, some (.str x), some (.lst (os.map .str)), some (wtD S g), some (.lst (qs.map Fo.d)), x7, x8, x9, x10, x11, x12, x13]) M7 ∧ (∀ q ∈ qs, q.ok) ∧ qs.length ≤ 6 ∧ Deal (Rs ++ X1 ++ X2 ++ X3 ++ X4) M7 := by
    by_cases h0 : r = 0
    · obtain ⟨qs, X, M', g1, g2, g3, g4⟩ := law_near_ok (n := n + 37) hN hps hG d6
      exact ⟨qs, X, M', by simp [a6, h0, g1], g2, by omega, g4⟩
    · exact ⟨ps, [], M6, by simp [a6, h0], fun q hq => (hps q hq).up (by decide), hpl, by simpa using d6⟩
  obtain ⟨X5, M8, y7, y8, y9, y10, y11, y12, y13, e8, d8⟩ := ask_ok (n := n) (p0 := p0) (x2 := x2) (x4 := some (.lst (os.map .str))) (x7 := x7) (x8 := x8) (x9 := x9) (x10 := x10) (x11 := x11) (x12 := x12) (x13 := x13) hN hqs hql hG d7 fun s X M' hs dl => by
    obtain ⟨X', M'', g10, g11, g12, g13, e, dd⟩ := refused_ok (n := n) (p0 := p0) (x2 := x2) (x4 := some (.lst (os.map .str))) (x7 := some s) (x8 := some (.lst [.tup ((castL x false qs).map Fo.d), .tup ((castL x true qs).map Fo.d), spD (spanV x (gW S g) qs)])) (x9 := some (spD (spanV x (gW S g) qs))) (x10 := x10) (x11 := x11) (x12 := x12) (x13 := x13) (ps := qs) (w5 := wtD S g) hN dl
    exact ⟨X ++ X', M'', g10, g11, g12, g13, e, by rw [← List.append_assoc]; exact dd⟩
  refine ⟨X1 ++ X2 ++ X3 ++ X4 ++ X5, M8, some (.str x), some (.lst (os.map .str)), some (wtD S g), some (.lst (qs.map Fo.d)), y7, y8, y9, y10, y11, y12, y13, ?_, by simpa [List.append_assoc] using d8⟩
  have s1 : evS (callN T (n + 40)) (.asg (.n 3) (.call "_law_of" (.cons (.var 1) (.cons (.lst false (.cons (.cst (.str "x")) (.cons (.cst (.str "a#1.2")) (.cons (.cst (.str "y")) .nil)))) .nil)))) [p0, some (.loc 1), x2, x3, x4, x5, x6, x7, x8, x9, x10, x11, x12, x13] M = .ok (.nx [p0, some (.loc 1), x2, some (.str x), x4, x5, x6, x7, x8, x9, x10, x11, x12, x13]) M1 := by
    simp [N3] at a1
    simp [a1]
  have s2 : evS (callN T (n + 40)) (.asg (.n 4) (.slc false (.call "_law_mixed" (.cons (.var 1) (.cons (.lst false (.cons (.cst (.str "b")) (.cons (.cst (.str "z")) (.cons (.cst (.str "x_1")) (.cons (.cst (.str "c.c")) .nil))))) .nil))) .non (.som (.call "_law_any" (.cons (.var 1) (.cons (.cst (.int 4)) .nil)))))) [p0, some (.loc 1), x2, some (.str x), x4, x5, x6, x7, x8, x9, x10, x11, x12, x13] M1 = .ok (.nx [p0, some (.loc 1), x2, some (.str x), some (.lst (os.map .str)), x5, x6, x7, x8, x9, x10, x11, x12, x13]) M3 := by
    simp [N4] at a2
    simp [a2, a3, slcD, hcut]
  have s3 : evS (callN T (n + 40)) (.asg (.n 5) (.call "_law_worths" (.cons (.var 1) (.cons (.bin .add (.var 4) (.lst false (.cons (.var 3) .nil))) .nil)))) [p0, some (.loc 1), x2, some (.str x), some (.lst (os.map .str)), x5, x6, x7, x8, x9, x10, x11, x12, x13] M3 = .ok (.nx [p0, some (.loc 1), x2, some (.str x), some (.lst (os.map .str)), some (wtD S g), x6, x7, x8, x9, x10, x11, x12, x13]) M4 := by
    simp at b5 a4
    simp [b5, a4]
  have s4 : evS (callN T (n + 40)) (.asg (.n 6) (.call "_law_bounding" (.cons (.var 1) (.cons (.var 3) (.cons (.var 4) .nil))))) [p0, some (.loc 1), x2, some (.str x), some (.lst (os.map .str)), some (wtD S g), x6, x7, x8, x9, x10, x11, x12, x13] M4 = .ok (.nx [p0, some (.loc 1), x2, some (.str x), some (.lst (os.map .str)), some (wtD S g), some (.lst (ps.map Fo.d)), x7, x8, x9, x10, x11, x12, x13]) M5 := by
    simp [a5]
  unfold f_law_b0
  rw [stepS s1, stepS s2, stepS s3, stepS s4, stepS e5]
  exact e8
theorem turns_ok {p0 : Option D} : ∀ (k : Nat) (lo : Int) (Rs M : Sto) (x2 x3 x4 x5 x6 x7 x8 x9 x10 x11 x12 x13 : Option D), Deal Rs M →
    ∃ M' env', forGo (.n 2) (fun env M => evSs (callN T (n + 40)) f_law_b0 env M) (rngD lo k) [p0, some (.loc 1), x2, x3, x4, x5, x6, x7, x8, x9, x10, x11, x12, x13] M = .ok (.nx env') M'
  | 0, lo, Rs, M, x2, x3, x4, x5, x6, x7, x8, x9, x10, x11, x12, x13, _ => ⟨M, _, rfl⟩
  | k + 1, lo, Rs, M, x2, x3, x4, x5, x6, x7, x8, x9, x10, x11, x12, x13, d => by
    obtain ⟨X', M1, y3, y4, y5, y6, y7, y8, y9, y10, y11, y12, y13, e1, d1⟩ := turn_ok (n := n) (p0 := p0) (x2 := some (.int lo)) (x3 := x3) (x4 := x4) (x5 := x5) (x6 := x6) (x7 := x7) (x8 := x8) (x9 := x9) (x10 := x10) (x11 := x11) (x12 := x12) (x13 := x13) d
    obtain ⟨M', env', e2⟩ := turns_ok (p0 := p0) k (lo + 1) _ M1 (some (.int lo)) y3 y4 y5 y6 y7 y8 y9 y10 y11 y12 y13 d1
    refine ⟨M', env', ?_⟩
    rw [rngD]
    unfold forGo
    rw [show asgD (.n 2) (.int lo) [p0, some (.loc 1), x2, x3, x4, x5, x6, x7, x8, x9, x10, x11, x12, x13] = some [p0, some (.loc 1), some (.int lo), x3, x4, x5, x6, x7, x8, x9, x10, x11, x12, x13] from rfl]
    dsimp only
    rw [e1]
    exact e2
theorem law_ok {ns : List Int} : ∃ M, callN T (n + 43) "law" [.scr (ns.map .int)] [] = .ok (.bl true) M := by
  obtain ⟨M0, a0, d0⟩ := law_draw_ok (n := n + 39) (ns := ns)
  obtain ⟨M', env', e⟩ := turns_ok (n := n) (p0 := some (.scr (ns.map .int))) 8 0 [] M0 none none none none none none none none none none none none d0
  refine ⟨M', free_low (n := n + 40) (fn := f_law) (by kernel_rfl) rfl rfl rfl ?_⟩
  have hf : fitLen 8 = true := by decide +kernel
  simp [f_law, a0, hf]
  rw [e]
  simp
end K21T
end Z


theorem PySem.Challenge.cw_boundbyproof_k21_whole_shadows_and_bound_holds : PySem.Challenge.rw_boundbyproof_k21_whole_shadows_and_bound.Holds := by
  exact K21T.ends (N := 43) ⟨rfl, by decide, by decide⟩ fun ns _ => Z.K21T.law_ok (n := 0)
