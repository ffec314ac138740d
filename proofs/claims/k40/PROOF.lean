import PyProof.Rows.All
import Wide.All
import OpenK.AllK
import Wide.FinOn
import HandS.ForMost
import HandS.ForExc
import HandS.HeadHook2
import HandS.HeadEnd
import HandS.Head0
import HandS.Head1
import HandS.Head2
import HandS.TupAny
import HandS.TupMul
import HandS.TupLe
import HandS.Deep
import HandS.DeepEq
import HandS.CallSlots
import HandS.ExcOwn
import HandS.IsInst
import HandS.Flow
import HandS.Style
import HandS.Wide
import HandS.Zip
import HandS.Iter
import KE.KStateDown
import KE.GoesMore
import HandS.NoneIn
import HandS.SetFor
import HandS.Strs
import HandS.Conv
import HandS.Codes
import PySem.Challenge.RW_thrownkinds_k40_main_covers_of_kinds
set_option Elab.async false
set_option linter.all false
set_option maxRecDepth 100000
set_option maxHeartbeats 0
/-! DL1: values as plain data with a small store; own syntax; its evaluator. -/
namespace DL
open PySem

inductive D where
  | non | bl (b : Bool) | int (i : Int) | str (x : Str) | tup (xs : List D) | lst (xs : List D) | kl (xs : List D) | ref (n : Nat) | fn (x : Str)
  deriving Inhabited

inductive SO where
  | lst (xs : List D)
  | dic (kvs : List (L2.Key × D))
  | ins (C : Str) (fs : List (Str × D))
  deriving Inhabited

abbrev Store := List SO
abbrev Rho := List (Option D)
structure Exn where
  cls : Str
  args : List D

inductive Res (α : Type) where
  | ok (a : α) (S : Store)
  | exn (x : Exn) (S : Store)
  | bad

def Res.bind {α β : Type} : Res α → (α → Store → Res β) → Res β
  | .ok a S, f => f a S
  | .exn x S, _ => .exn x S
  | .bad, _ => .bad
@[simp] theorem Res.bind_ok {α β : Type} (a : α) (S : Store) (f : α → Store → Res β) : (Res.ok a S).bind f = f a S := rfl
@[simp] theorem Res.bind_exn {α β : Type} (x : Exn) (S : Store) (f : α → Store → Res β) : (Res.exn x S : Res α).bind f = .exn x S := rfl
@[simp] theorem Res.bind_bad {α β : Type} (f : α → Store → Res β) : (Res.bad : Res α).bind f = .bad := rfl

/-- .. where no exception may come -/
def Res.bindN {α β : Type} : Res α → (α → Store → Res β) → Res β
  | .ok a S, f => f a S
  | _, _ => .bad
@[simp] theorem Res.bindN_ok {α β : Type} (a : α) (S : Store) (f : α → Store → Res β) : (Res.ok a S).bindN f = f a S := rfl

abbrev M (α : Type) := Rho → Store → Res α

inductive Out where
  | nx (ρ : Rho) (S : Store)
  | rt (d : D) (S : Store)
  | bk (ρ : Rho) (S : Store)
  | ct (ρ : Rho) (S : Store)
  | exn (x : Exn) (ρ : Rho) (S : Store)
  | bad

/-! ### freezing -/
mutual
def frzR (g : Nat → Option D) : D → Option D
  | .non => some .non
  | .bl b => some (.bl b)
  | .int i => some (.int i)
  | .str x => some (.str x)
  | .tup xs => (frzRs g xs).map .tup
  | .lst xs => (frzRs g xs).map .lst
  | .kl xs => (frzRs g xs).map .kl
  | .ref n => g n
  | .fn x => some (.fn x)
def frzRs (g : Nat → Option D) : List D → Option (List D)
  | [] => some []
  | x :: xs => match frzR g x, frzRs g xs with
    | some y, some ys => some (y :: ys)
    | _, _ => none
end
def frz : Nat → Store → D → Option D
  | 0, _ => frzR fun _ => none
  | k + 1, S => frzR fun n => match S[n]? with
    | some (.lst xs) => (frzRs (fun m => frz k S (.ref m)) xs).map .lst
    | _ => none
/- no reference in it -/
mutual
def D.pure : D → Bool
  | .ref _ => false
  | .tup xs => D.pures xs
  | .lst xs => D.pures xs
  | .kl xs => D.pures xs
  | _ => true
def D.pures : List D → Bool
  | [] => true
  | x :: xs => x.pure && D.pures xs
end

/-! ### == -/
mutual
def D.py : D → Option PyData
  | .non => some .none
  | .bl b => some (.bool b)
  | .int i => some (.int i)
  | .str x => some (.str x)
  | .tup xs => (D.pys xs).map .tuple
  | .lst xs => (D.pys xs).map .list
  | .kl xs => (D.pys xs).map .list
  | .ref _ => none
  | .fn _ => none
def D.pys : List D → Option (List PyData)
  | [] => some []
  | x :: xs => match x.py, D.pys xs with
    | some y, some ys => some (y :: ys)
    | _, _ => none
end
/-- what is compared -/
def pyIn (S : Store) (d : D) : Option PyData := (frz 60 S d).bind D.py
def eqD (S : Store) (x y : D) : Option Bool := match pyIn S x, pyIn S y with
  | some p, some q => if SeqAt.shaped p && SeqAt.shaped q then some (PyData.eqv p q) else none
  | _, _ => none

/-! ### own syntax -/
inductive K0 where
  | non | bl (b : Bool) | int (i : Int) | str (x : Str)
def K0.d : K0 → D
  | .non => .non
  | .bl b => .bl b
  | .int i => .int i
  | .str x => .str x
inductive Bop where
  | add | sub | mul | fdiv | mod | pow
  deriving DecidableEq
inductive Cop where
  | eq | ne | lt | le | gt | ge | is_ | isnot | in_ | notin
  deriving DecidableEq
inductive Bi where
  | len | tuple | list | int | abs | all | any | sum | max | sset | lrg | trg
  deriving DecidableEq
inductive Ty where
  | non | bl | int | str | tup | lst | dic
  deriving DecidableEq
def Ty.nm : Ty → String
  | .non => "NoneType"
  | .bl => "bool"
  | .int => "int"
  | .str => "str"
  | .tup => "tuple"
  | .lst => "list"
  | .dic => "dict"
inductive Mt where
  | append | extend | pop
  deriving DecidableEq
def Mt.nm : Mt → Str
  | .append => "append"
  | .extend => "extend"
  | .pop => "pop"
mutual
inductive Ex where
  | var (i : Nat)
  | con (c : K0)
  | glob (x : Str)
  | tup (es : Exs)
  | lst (m : Bool) (es : Exs)
  | bin (m : Bool) (op : Bop) (a b : Ex)
  | neg (a : Ex)
  | not (a : Ex)
  | cmp (op : Cop) (a b : Ex)
  | chain (op op' : Cop) (a b c : Ex)
  | and (a b : Ex)
  | or (a b : Ex)
  | ite (c a b : Ex)
  | ix (a b : Ex)
  | slice (m : Bool) (a : Ex) (lo hi : Option Ex)
  | lc (m : Bool) (elt : Ex) (tg : Tg) (it : Iq) (ifs : Exs) (own : List Nat)
  | call (f : Nat) (es : Exs)
  | callk (f : Nat) (es : Exs) (ks : List Str) (perm : List Nat)
  | bcall (m : Bool) (b : Bi) (e : Ex)
  | isi (a : Ex) (ts : List Ty)
  | meth (o : Ex) (name : Mt) (es : Exs)
  | mm (mx : Bool) (a b : Ex)
inductive Exs where
  | nil
  | cons (e : Ex) (r : Exs)
inductive Tg where
  | name (i : Nat)
  | tup (is : List Nat)
  | ix (o i : Ex)
inductive Iq where
  | val (e : Ex)
  | str (e : Ex)
  | range (es : Exs)
  | enum (e : Ex)
  | zip (a b : Ex)
end
mutual
inductive Sm where
  | asg (t : Tg) (e : Ex)
  | expr (e : Ex)
  | ret (e : Ex)
  | ite (c : Ex) (a b : Sms)
  | for_ (t : Tg) (it : Iq) (b : Sms)
  | while_ (c : Ex) (b : Sms)
  | brk
  | cont
  | pass
  | par (i j : Nat) (a b : Ex)
  | raise (C : Str) (es : Exs)
inductive Sms where
  | nil
  | cons (s : Sm) (r : Sms)
end

/-! ### the evaluator's parts -/
structure EvC where
  call : Nat → List D → Store → Res D
  cn : Str → Option D
  w : Nat

/-- a list's items, wherever it stands -/
def seqOf (S : Store) : D → Option (List D)
  | .tup xs => some xs
  | .lst xs => some xs
  | .kl xs => some xs
  | .ref n => match S[n]? with
    | some (.lst xs) => some xs
    | _ => none
  | _ => none
def lstOf (S : Store) : D → Option (List D)
  | .lst xs => some xs
  | .kl xs => some xs
  | .ref n => match S[n]? with
    | some (.lst xs) => some xs
    | _ => none
  | _ => none
/-- .. not a known list -/
def ownOf (S : Store) : D → Option (List D)
  | .lst xs => some xs
  | .ref n => match S[n]? with
    | some (.lst xs) => some xs
    | _ => none
  | _ => none
def truth (S : Store) : D → Option Bool
  | .non => some false
  | .bl b => some b
  | .int i => some (i != 0)
  | .str x => if x.length ≤ 16777216 then some (x.length != 0) else none
  | .tup xs => some (!xs.isEmpty)
  | .lst xs => some (!xs.isEmpty)
  | .kl xs => some (!xs.isEmpty)
  | .ref n => match S[n]? with
    | some (.lst xs) => some (!xs.isEmpty)
    | _ => none
  | .fn _ => none
def optR {α : Type} (o : Option α) (S : Store) : Res α := match o with
  | some a => .ok a S
  | none => .bad
/-- a new list: frozen, or in the store -/
def newL (m : Bool) (xs : List D) (S : Store) : Res D := if m then .ok (.ref S.length) (S ++ [.lst xs]) else .ok (.lst xs) S

def binD (m : Bool) (op : Bop) (x y : D) (S : Store) : Res D := match op, x, y with
  | .add, .int i, .int j => .ok (.int (i + j)) S
  | .add, .str a, .str b => if a.length + b.length ≤ 16777216 then .ok (.str (a ++ b)) S else .bad
  | .add, .tup a, .tup b => if a.length + b.length ≤ 16777216 then .ok (.tup (a ++ b)) S else .bad
  | .add, x, y => match ownOf S x, ownOf S y with
    | some a, some b => if a.length + b.length ≤ 16777216 then newL m (a ++ b) S else .bad
    | _, _ => .bad
  | .sub, .int i, .int j => .ok (.int (i - j)) S
  | .mul, .int i, .int j => if i.natAbs ≤ 18446744073709551615 ∨ j.natAbs ≤ 18446744073709551615 then .ok (.int (i * j)) S else .bad
  | .mul, .tup a, .int k => if a.isEmpty = false ∧ 2 ≤ k ∧ k.natAbs ≤ 1000 ∧ a.length ≤ 1000 then .ok (.tup (List.replicate k.toNat a).flatten) S else .bad
  | .mul, x, .int k => match ownOf S x with
    | some a => if 0 ≤ k ∧ k.natAbs ≤ 1000 ∧ a.length ≤ 1000 then newL m (List.replicate k.toNat a).flatten S else .bad
    | none => .bad
  | .fdiv, .int i, .int j => if 0 < j ∧ j.natAbs < 1073741824 then .ok (.int (i / j)) S else .bad
  | .mod, .int i, .int j => if 0 < j then .ok (.int (i % j)) S else .bad
  | .pow, .int i, .int j => if 0 ≤ j ∧ j.natAbs ≤ 1000000 ∧ i.natAbs ≤ 18446744073709551615 then .ok (.int (i ^ j.toNat)) S else .bad
  | _, _, _ => .bad

/-- a flat value -/
def D.flat : D → Bool
  | .non => true
  | .bl _ => true
  | .int _ => true
  | .str _ => true
  | _ => false
def eqF : D → D → Bool
  | .non, .non => true
  | .bl a, .bl b => a == b
  | .bl a, .int b => (if a then 1 else 0) == b
  | .int a, .bl b => a == (if b then 1 else 0)
  | .int a, .int b => a == b
  | .str a, .str b => a == b
  | _, _ => false
def inF (x : D) (xs : List D) : Bool := xs.any fun y => eqF y x
def lexLt : List Int → List Int → Bool := HT.lexLt
def inD (S : Store) (x y : D) : Option Bool := match x, y with
  | .str c, .str z => if c.cps.size = 1 then some (decide (c.cps.getD 0 0 ∈ z.cps.toList)) else none
  | x, y => match seqOf S y with
    | some ys => if x.flat && ys.all D.flat then some (inF x ys) else
        match pyIn S x, pyIn S y with
        | some p, some (.list qs) => if SeqAt.shaped p && SeqAt.shaped (.list qs) then some (qs.any fun q => PyData.eqv q p) else none
        | _, _ => none
    | none => none
def cmpD (op : Cop) (x y : D) (S : Store) : Option Bool := match op with
  | .eq => eqD S x y
  | .ne => (eqD S x y).map (!·)
  | .lt => match x, y with
    | .int i, .int j => some (decide (i < j))
    | _, _ => none
  | .le => match x, y with
    | .int i, .int j => some (decide (i ≤ j))
    | _, _ => none
  | .gt => match x, y with
    | .int i, .int j => some (decide (j < i))
    | _, _ => none
  | .ge => match x, y with
    | .int i, .int j => some (decide (j ≤ i))
    | _, _ => none
  | .is_ => match x, y with
    | .non, .non => some true
    | x, .non => match x with
      | .non => some true
      | _ => some false
    | .bl a, .bl b => some (decide (a = b))
    | _, _ => none
  | .isnot => match x, y with
    | x, .non => match x with
      | .non => some false
      | _ => some true
    | .bl a, .bl b => some (!decide (a = b))
    | _, _ => none
  | .in_ => inD S x y
  | .notin => (inD S x y).map (!·)

def ixD (x y : D) (S : Store) : Option D := match x, y with
  | .str z, .int i => if z.length ≤ 16777216 then (L2.atI z.cps.toList i).map fun c => .str ⟨#[c]⟩ else none
  | x, .int i => match seqOf S x with
    | some xs => L2.atI xs i
    | none => none
  | _, _ => none
def cutD {α : Type} (xs : List α) (lo hi : Option Int) : List α := (xs.drop (HT.sIx xs.length 0 lo)).take (HT.sIx xs.length xs.length hi - HT.sIx xs.length 0 lo)
def sliceD (m : Bool) (x : D) (lo hi : Option Int) (S : Store) : Res D := match x with
  | .tup xs => .ok (.tup (cutD xs lo hi)) S
  | .str z => if z.length ≤ 16777216 then .ok (.str (L2.cutS z lo hi)) S else .bad
  | x => match lstOf S x with
    | some xs => newL m (cutD xs lo hi) S
    | none => .bad
def intsOf : List D → Option (List Int)
  | [] => some []
  | .int i :: r => (intsOf r).map (i :: ·)
  | _ :: _ => none
def blsOf : List D → Option (List Bool)
  | [] => some []
  | .bl i :: r => (blsOf r).map (i :: ·)
  | _ :: _ => none
def maxI : List Int → Int
  | [] => 0
  | x :: r => r.foldl (fun a b => if b > a then b else a) x
def insS (k : Int) : List Int → List Int
  | [] => [k]
  | x :: r => if k < x then k :: x :: r else if k = x then x :: r else x :: insS k r
/-- sorted(set(..)) -/
def sset : List Int → List Int
  | [] => []
  | k :: r => insS k (sset r)
def mm2 (mx : Bool) (x y : D) : Option D := match x, y with
  | .int i, .int j => some (.int (if mx then (if j > i then j else i) else (if j < i then j else i)))
  | _, _ => none
def biD (m : Bool) (b : Bi) (x : D) (S : Store) : Res D := match b with
  | .len => match x with
    | .str z => if z.length ≤ 16777216 then .ok (.int z.length) S else .bad
    | x => match seqOf S x with
      | some xs => .ok (.int xs.length) S
      | none => .bad
  | .tuple => match seqOf S x with
    | some xs => .ok (.tup xs) S
    | none => .bad
  | .list => match seqOf S x with
    | some xs => newL m xs S
    | none => .bad
  | .int => match x with
    | .int i => .ok (.int i) S
    | .bl k => .ok (.int (if k then 1 else 0)) S
    | _ => .bad
  | .abs => match x with
    | .int i => .ok (.int (if i < 0 then -i else i)) S
    | _ => .bad
  | .all => match (lstOf S x).bind blsOf with
    | some bs => .ok (.bl (bs.all id)) S
    | none => .bad
  | .any => match (lstOf S x).bind blsOf with
    | some bs => .ok (.bl (bs.any id)) S
    | none => .bad
  | .sum => match (lstOf S x).bind intsOf with
    | some ns => .ok (.int ns.sum) S
    | none => .bad
  | .max => match (lstOf S x).bind intsOf with
    | some (n :: ns) => .ok (.int (maxI (n :: ns))) S
    | _ => .bad
  | .sset => match (seqOf S x).bind intsOf with
    | some ns => if ns.length < 60 then newL m ((sset ns).map D.int) S else .bad
    | none => .bad
  | .lrg => match x with
    | .int j => if j.natAbs ≤ 100000 then newL m ((List.range j.toNat).map fun (i : Nat) => D.int i) S else .bad
    | _ => .bad
  | .trg => match x with
    | .int j => if j.natAbs ≤ 100000 then .ok (.tup ((List.range j.toNat).map fun (i : Nat) => D.int i)) S else .bad
    | _ => .bad
def tyD (S : Store) : D → Option Ty
  | .non => some .non
  | .bl _ => some .bl
  | .int _ => some .int
  | .str _ => some .str
  | .tup _ => some .tup
  | .lst _ => some .lst
  | .kl _ => some .lst
  | .ref n => match S[n]? with
    | some (.lst _) => some .lst
    | some (.dic _) => some .dic
    | _ => none
  | .fn _ => none
def Ty.sub (t c : Ty) : Bool := decide (t = c) || (decide (t = .bl) && decide (c = .int))
/-- isinstance by name: bool is under int -/
def isiD (S : Store) (x : D) (ts : List Ty) : Option Bool := (tyD S x).map fun t => ts.any fun c => t.sub c
/-- what a list may be extended by -/
def extOf (S : Store) : D → Option (List D)
  | .tup xs => some xs
  | d => ownOf S d
def methD (m : Bool) (o : D) (name : Mt) (as : List D) (S : Store) : Res D := match name with
  | .append => (match o, as with
    | .ref n, [x] => match S[n]? with
      | some (.lst xs) => if xs.length < 16777216 then .ok .non (S.set n (.lst (xs ++ [x]))) else .bad
      | _ => .bad
    | _, _ => .bad)
  | .extend => (match o, as with
    | .ref n, [x] => match S[n]?, extOf S x with
      | some (.lst xs), some ys => if xs.length + ys.length ≤ 16777216 then .ok .non (S.set n (.lst (xs ++ ys))) else .bad
      | _, _ => .bad
    | _, _ => .bad)
  | .pop => (match o, as with
    | .ref n, [] => match S[n]? with
      | some (.lst xs) => match xs[xs.length - 1]? with
        | some y => .ok y (S.set n (.lst xs.dropLast))
        | none => .bad
      | _ => .bad
    | .ref n, [.int i] => match S[n]? with
      | some (.lst xs) => if i.natAbs ≤ 1000000000 then (match L2.ixN xs.length i with
        | some j => (match xs[j]? with
          | some y => .ok y (S.set n (.lst (xs.eraseIdx j)))
          | none => .bad)
        | none => .bad) else .bad
      | _ => .bad
    | _, _ => .bad)
def setIx (o i v : D) (S : Store) : Option Store := match o, i with
  | .ref n, .int k => match S[n]? with
    | some (.lst xs) => (L2.ixN xs.length k).map fun j => S.set n (.lst (xs.set j v))
    | _ => none
  | _, _ => none

/-! ### what a loop walks -/
inductive Src where
  | seq (xs : List D)
  | ref (n : Nat)
  | enum (xs : List D)
  | enumR (n : Nat)
  | zip (xs ys : List D)
  | rng (lo : Int) (n : Nat)
  | str (x : Str)
/-- none: bad; some none: it stops -/
def Src.at (s : Src) (i : Nat) (S : Store) : Option (Option D) := match s with
  | .seq xs => some xs[i]?
  | .ref n => match S[n]? with
    | some (.lst xs) => some xs[i]?
    | _ => none
  | .enum xs => some (xs[i]?.map fun x => .tup [.int i, x])
  | .enumR n => match S[n]? with
    | some (.lst xs) => some (xs[i]?.map fun x => .tup [.int i, x])
    | _ => none
  | .zip xs ys => match xs[i]?, ys[i]? with
    | some x, some y => some (some (.tup [x, y]))
    | _, _ => some none
  | .rng lo n => some (if i < n then some (.int (lo + i)) else none)
  | .str x => some (x.cps[i]?.map fun c => .str ⟨#[c]⟩)
def srcVal (S : Store) (d : D) : Option Src := match d with
  | .tup xs => some (.seq xs)
  | .lst xs => some (.seq xs)
  | .kl xs => some (.seq xs)
  | .ref n => match S[n]? with
    | some (.lst _) => some (.ref n)
    | _ => none
  | .str x => some (.str x)
  | _ => none
def srcEnum (S : Store) (d : D) : Option Src := match d with
  | .tup xs => some (.enum xs)
  | .lst xs => some (.enum xs)
  | .kl xs => some (.enum xs)
  | .ref n => match S[n]? with
    | some (.lst _) => some (.enumR n)
    | _ => none
  | _ => none
def srcZip (x y : D) : Option Src := match x, y with
  | .tup xs, .tup ys => some (.zip xs ys)
  | .lst xs, .lst ys => some (.zip xs ys)
  | .lst xs, .kl ys => some (.zip xs ys)
  | .kl xs, .lst ys => some (.zip xs ys)
  | .kl xs, .kl ys => some (.zip xs ys)
  | _, _ => none
def srcRange (ds : List D) : Option Src := match ds with
  | [.int j] => if j.natAbs ≤ 1000000000 then some (.rng 0 j.toNat) else none
  | [.int i, .int j] => if i.natAbs ≤ 1000000000 ∧ j.natAbs ≤ 1000000000 then some (.rng i (j - i).toNat) else none
  | _ => none

def setN (ρ : Rho) (i : Nat) (d : D) : Rho := ρ.set i (some d)
def setNs (ρ : Rho) : List Nat → List D → Option Rho
  | [], [] => some ρ
  | i :: is, d :: ds => setNs (setN ρ i d) is ds
  | _, _ => none
def wipeR (ρ : Rho) : List Nat → Rho
  | [] => ρ
  | v :: vs => (wipeR ρ vs).set v none

/-- a comprehension's turns -/
def lcGo (src : Src) (tg : D → Rho → Store → Res Rho) (tt : M Bool) (te : M D) (ρ : Rho) : Nat → Nat → List D → Store → Res (List D)
  | 0, _, _, _ => .bad
  | k + 1, i, acc, S => match src.at i S with
    | none => .bad
    | some none => .ok acc S
    | some (some x) => (tg x ρ S).bindN fun ρ1 S1 => (tt ρ1 S1).bindN fun b S2 =>
        if b then (te ρ1 S2).bindN fun y S3 => lcGo src tg tt te ρ k (i + 1) (acc ++ [y]) S3 else lcGo src tg tt te ρ k (i + 1) acc S2
def forGo (src : Src) (tg : D → Rho → Store → Res Rho) (tb : Rho → Store → Out) : Nat → Nat → Rho → Store → Out
  | 0, _, _, _ => .bad
  | k + 1, i, ρ, S => match src.at i S with
    | none => .bad
    | some none => .nx ρ S
    | some (some x) => match tg x ρ S with
      | .ok ρ1 S1 => (match tb ρ1 S1 with
        | .nx ρ2 S2 => forGo src tg tb k (i + 1) ρ2 S2
        | .ct ρ2 S2 => forGo src tg tb k (i + 1) ρ2 S2
        | .bk ρ2 S2 => .nx ρ2 S2
        | .rt d S2 => .rt d S2
        | .exn x ρ2 S2 => .exn x ρ2 S2
        | .bad => .bad)
      | .exn x S1 => .exn x ρ S1
      | .bad => .bad
def whileGo (c : M Bool) (tb : Rho → Store → Out) : Nat → Rho → Store → Out
  | 0, _, _ => .bad
  | k + 1, ρ, S => match c ρ S with
    | .ok true S1 => (match tb ρ S1 with
        | .nx ρ2 S2 => whileGo c tb k ρ2 S2
        | .ct ρ2 S2 => whileGo c tb k ρ2 S2
        | .bk ρ2 S2 => .nx ρ2 S2
        | .rt d S2 => .rt d S2
        | .exn x ρ2 S2 => .exn x ρ2 S2
        | .bad => .bad)
    | .ok false S1 => .nx ρ S1
    | .exn x S1 => .exn x ρ S1
    | .bad => .bad

/-! ### the evaluator -/
mutual
def ev (C : EvC) : Ex → M D
  | .var i => fun ρ S => match ρ[i]? with
    | some (some d) => .ok d S
    | _ => .bad
  | .con c => fun _ S => .ok c.d S
  | .glob x => fun _ S => optR (C.cn x) S
  | .tup es => fun ρ S => (evs C es ρ S).bind fun ds S1 => .ok (.tup ds) S1
  | .lst m es => fun ρ S => (evs C es ρ S).bind fun ds S1 => newL m ds S1
  | .bin m op a b => fun ρ S => (ev C a ρ S).bind fun x S1 => (ev C b ρ S1).bind fun y S2 => binD m op x y S2
  | .neg a => fun ρ S => (ev C a ρ S).bind fun x S1 => match x with
    | .int i => .ok (.int (-i)) S1
    | _ => .bad
  | .not a => fun ρ S => (ev C a ρ S).bind fun x S1 => optR ((truth S1 x).map fun k => .bl (!k)) S1
  | .cmp op a b => fun ρ S => (ev C a ρ S).bind fun x S1 => (ev C b ρ S1).bind fun y S2 => optR ((cmpD op x y S2).map .bl) S2
  | .chain op op' a b c => fun ρ S => (ev C a ρ S).bind fun x S1 => (ev C b ρ S1).bind fun y S2 => (optR (cmpD op x y S2) S2).bind fun k S3 =>
      if k then (ev C c ρ S3).bind fun z S4 => optR ((cmpD op' y z S4).map .bl) S4 else .ok (.bl false) S3
  | .and a b => fun ρ S => (ev C a ρ S).bind fun x S1 => (optR (truth S1 x) S1).bind fun k S2 => if k then ev C b ρ S2 else .ok x S2
  | .or a b => fun ρ S => (ev C a ρ S).bind fun x S1 => (optR (truth S1 x) S1).bind fun k S2 => if k then .ok x S2 else ev C b ρ S2
  | .ite c a b => fun ρ S => (evT C c ρ S).bind fun k S1 => if k then ev C a ρ S1 else ev C b ρ S1
  | .ix a b => fun ρ S => (ev C a ρ S).bind fun x S1 => (ev C b ρ S1).bind fun y S2 => optR (ixD x y S2) S2
  | .slice m a lo hi => fun ρ S => (ev C a ρ S).bind fun x S1 => (evO C lo ρ S1).bind fun l S2 => (evO C hi ρ S2).bind fun h S3 => sliceD m x l h S3
  | .lc m elt tg it ifs own => fun ρ S => (evI C it ρ S).bind fun src S1 =>
      (lcGo src (evG C tg) (evTs C ifs) (ev C elt) (wipeR ρ own) C.w 0 [] S1).bind fun ds S2 => newL m ds S2
  | .call f es => fun ρ S => (evs C es ρ S).bind fun ds S1 => C.call f ds S1
  | .callk f es _ perm => fun ρ S => (evs C es ρ S).bind fun ds S1 => C.call f (perm.filterMap fun j => ds[j]?) S1
  | .bcall m b e => fun ρ S => (ev C e ρ S).bind fun x S1 => biD m b x S1
  | .isi a ts => fun ρ S => (ev C a ρ S).bind fun x S1 => optR ((isiD S1 x ts).map .bl) S1
  | .meth o name es => fun ρ S => (ev C o ρ S).bind fun x S1 => if (ownOf S1 x).isSome then (evs C es ρ S1).bind fun ds S2 => methD true x name ds S2 else .bad
  | .mm mx a b => fun ρ S => (ev C a ρ S).bind fun x S1 => (ev C b ρ S1).bind fun y S2 => optR (mm2 mx x y) S2
def evs (C : EvC) : Exs → M (List D)
  | .nil => fun _ S => .ok [] S
  | .cons e r => fun ρ S => (ev C e ρ S).bind fun x S1 => (evs C r ρ S1).bind fun xs S2 => .ok (x :: xs) S2
def evO (C : EvC) : Option Ex → M (Option Int)
  | none => fun _ S => .ok none S
  | some e => fun ρ S => (ev C e ρ S).bind fun x S1 => match x with
    | .int i => .ok (some i) S1
    | _ => .bad
/-- as a test -/
def evT (C : EvC) : Ex → M Bool
  | .not a => fun ρ S => (evT C a ρ S).bind fun k S1 => .ok (!k) S1
  | .and a b => fun ρ S => (evT C a ρ S).bind fun k S1 => if k then evT C b ρ S1 else .ok false S1
  | .or a b => fun ρ S => (evT C a ρ S).bind fun k S1 => if k then .ok true S1 else evT C b ρ S1
  | .ite c a b => fun ρ S => (evT C c ρ S).bind fun k S1 => if k then evT C a ρ S1 else evT C b ρ S1
  | .cmp op a b => fun ρ S => (ev C a ρ S).bind fun x S1 => (ev C b ρ S1).bind fun y S2 => optR (cmpD op x y S2) S2
  | .chain op op' a b c => fun ρ S => (ev C a ρ S).bind fun x S1 => (ev C b ρ S1).bind fun y S2 => (optR (cmpD op x y S2) S2).bind fun k S3 =>
      if k then (ev C c ρ S3).bind fun z S4 => optR (cmpD op' y z S4) S4 else .ok false S3
  | .call f es => fun ρ S => (evs C es ρ S).bind fun ds S1 => (C.call f ds S1).bind fun x S2 => optR (truth S2 x) S2
  | .callk f es _ perm => fun ρ S => (evs C es ρ S).bind fun ds S1 => (C.call f (perm.filterMap fun j => ds[j]?) S1).bind fun x S2 => optR (truth S2 x) S2
  | .bcall m b e => fun ρ S => (ev C e ρ S).bind fun x S1 => (biD m b x S1).bind fun x S2 => optR (truth S2 x) S2
  | .isi a ts => fun ρ S => (ev C a ρ S).bind fun x S1 => optR (isiD S1 x ts) S1
  | .var i => fun ρ S => match ρ[i]? with
    | some (some d) => optR (truth S d) S
    | _ => .bad
  | .con c => fun _ S => optR (truth S c.d) S
  | .ix a b => fun ρ S => (ev C a ρ S).bind fun x S1 => (ev C b ρ S1).bind fun y S2 => (optR (ixD x y S2) S2).bind fun x S3 => optR (truth S3 x) S3
  | _ => fun _ _ => .bad
/-- several tests -/
def evTs (C : EvC) : Exs → M Bool
  | .nil => fun _ S => .ok true S
  | .cons e r => fun ρ S => (evT C e ρ S).bind fun k S1 => if k then evTs C r ρ S1 else .ok false S1
def evI (C : EvC) : Iq → M Src
  | .val e => fun ρ S => (ev C e ρ S).bind fun x S1 => match x with
    | .str _ => .bad
    | x => optR (srcVal S1 x) S1
  | .str e => fun ρ S => (ev C e ρ S).bind fun x S1 => match x with
    | .str z => .ok (.str z) S1
    | _ => .bad
  | .range es => fun ρ S => (evs C es ρ S).bind fun ds S1 => optR (srcRange ds) S1
  | .enum e => fun ρ S => (ev C e ρ S).bind fun x S1 => optR (srcEnum S1 x) S1
  | .zip a b => fun ρ S => (ev C a ρ S).bind fun x S1 => (ev C b ρ S1).bind fun y S2 => optR (srcZip x y) S2
def evG (C : EvC) : Tg → D → Rho → Store → Res Rho
  | .name i => fun x ρ S => .ok (setN ρ i x) S
  | .tup is => fun x ρ S => match seqOf S x with
    | some xs => optR (setNs ρ is xs) S
    | none => .bad
  | .ix o i => fun v ρ S => (ev C o ρ S).bind fun x S1 => (ev C i ρ S1).bind fun y S2 => match setIx x y v S2 with
    | some S3 => .ok ρ S3
    | none => .bad
end
def bindO {α : Type} (ρ : Rho) (r : Res α) (f : α → Store → Out) : Out := match r with
  | .ok a S => f a S
  | .exn x S => .exn x ρ S
  | .bad => .bad
@[simp] theorem bindO_ok {α : Type} (ρ : Rho) (a : α) (S : Store) (f : α → Store → Out) : bindO ρ (.ok a S) f = f a S := rfl
@[simp] theorem bindO_exn {α : Type} (ρ : Rho) (x : Exn) (S : Store) (f : α → Store → Out) : bindO ρ (.exn x S : Res α) f = .exn x ρ S := rfl
@[simp] theorem bindO_bad {α : Type} (ρ : Rho) (f : α → Store → Out) : bindO ρ (.bad : Res α) f = .bad := rfl
mutual
def evS (C : EvC) : Sm → Rho → Store → Out
  | .asg t e => fun ρ S => bindO ρ (ev C e ρ S) fun x S1 => bindO ρ (evG C t x ρ S1) fun ρ1 S2 => .nx ρ1 S2
  | .expr e => fun ρ S => bindO ρ (ev C e ρ S) fun _ S1 => .nx ρ S1
  | .ret e => fun ρ S => bindO ρ (ev C e ρ S) fun x S1 => .rt x S1
  | .ite c a b => fun ρ S => bindO ρ (evT C c ρ S) fun k S1 => if k then evB C a ρ S1 else evB C b ρ S1
  | .for_ t it b => fun ρ S => bindO ρ (evI C it ρ S) fun src S1 => forGo src (evG C t) (evB C b) C.w 0 ρ S1
  | .while_ c b => fun ρ S => whileGo (evT C c) (evB C b) C.w ρ S
  | .brk => fun ρ S => .bk ρ S
  | .cont => fun ρ S => .ct ρ S
  | .pass => fun ρ S => .nx ρ S
  | .par i j a b => fun ρ S => bindO ρ (ev C a ρ S) fun x S1 => bindO ρ (ev C b ρ S1) fun y S2 => .nx (setN (setN ρ i x) j y) S2
  | .raise c es => fun ρ S => bindO ρ (evs C es ρ S) fun ds S1 => .exn ⟨c, ds⟩ ρ S1
def evB (C : EvC) : Sms → Rho → Store → Out
  | .nil => fun ρ S => .nx ρ S
  | .cons s r => fun ρ S => match evS C s ρ S with
    | .nx ρ1 S1 => evB C r ρ1 S1
    | o => o
end
/-- a def: how many parameters, how many slots, whether it may be run apart -/
structure FD where
  np : Nat
  ns : Nat
  pur : Bool
  body : Sms
abbrev Tbl := Nat → Option FD
def endD : Out → Res D
  | .nx _ S => .ok .non S
  | .rt d S => .ok d S
  | .exn x _ S => .exn x S
  | _ => .bad
def runB (C : EvC) (f : FD) (ds : List D) (S : Store) : Res D := endD (evB C f.body (ds.map some ++ List.replicate (f.ns - f.np) none) S)
/-- a def that is run apart: what it tells, frozen -/
def runP (C : EvC) (f : FD) (ds : List D) (S : Store) : Res D :=
  if D.pures ds then match runB C f ds [] with
    | .ok d S1 => (match frz 60 S1 d with
      | some d' => .ok d' S
      | none => .bad)
    | .exn x S1 => if D.pures x.args then .exn x S else .bad
    | .bad => .bad
  else .bad
def callN (T : Tbl) (cn : Str → Option D) (w : Nat) : Nat → Nat → List D → Store → Res D
  | 0 => fun _ _ _ => .bad
  | n + 1 => fun f ds S => match T f with
    | some fd => if ds.length = fd.np then (if fd.pur then runP ⟨callN T cn w n, cn, w⟩ fd ds S else runB ⟨callN T cn w n, cn, w⟩ fd ds S) else .bad
    | none => .bad
end DL
/-! DL2: how data stand in the heap; readings by an evaluator. -/
namespace DL
open PySem PySem.Spec L2
open PyProof.Rows hiding St

/-- where the store's objects stand, and which addresses are not to be taken as frozen -/
structure Bt where
  β : List Addr
  av : List Addr

section
variable (K : PySem.W.Frag) (mg : Str → Option Value)
/-- a list, a tuple that is never changed -/
def FzL (b : Bt) (H : Hp) (a : Addr) (vs : List V) : Prop := H a = some (.lst vs) ∧ a ∉ b.av
def FzK (b : Bt) (H : Hp) (a : Addr) (vs : List V) : Prop := (Rd H a (.lst vs) ∧ a ∉ b.av) ∨
  ∃ (o : Obj) (its : Array Value) (n : Nat), K.lookup a = some o ∧ o.cls = .type "list" ∧ o.dict = none ∧ o.data = .seq its n ∧ its.size ≤ sizeLine ∧ Vals vs its.toList
def FzT (b : Bt) (H : Hp) (a : Addr) (vs : List V) : Prop := (Rd H a (.tup vs) ∧ a ∉ b.av) ∨
  ∃ (o : Obj) (its : Array Value) (n : Nat), K.lookup a = some o ∧ o.cls = .type "tuple" ∧ o.data = .seq its n ∧ its.size ≤ sizeLine ∧ Vals vs its.toList
mutual
inductive RD (b : Bt) (H : Hp) : D → V → Prop
  | non : RD b H .non .non
  | bl (k : Bool) : RD b H (.bl k) (.bl k)
  | int (i : Int) : RD b H (.int i) (.int i)
  | str (x : Str) : RD b H (.str x) (.str x)
  | tup {a : Addr} {vs : List V} {ds : List D} : FzT K b H a vs → RDs b H ds vs → RD b H (.tup ds) (.ref a)
  | lst {a : Addr} {vs : List V} {ds : List D} : FzL b H a vs → RDs b H ds vs → RD b H (.lst ds) (.ref a)
  | kl {a : Addr} {vs : List V} {ds : List D} : FzK K b H a vs → RDs b H ds vs → RD b H (.kl ds) (.ref a)
  | ref {n : Nat} {a : Addr} : b.β[n]? = some a → RD b H (.ref n) (.ref a)
  | fn {x : Str} {a : Addr} : mg x = some (.ref a) → RD b H (.fn x) (.ref a)
inductive RDs (b : Bt) (H : Hp) : List D → List V → Prop
  | nil : RDs b H [] []
  | cons {d : D} {v : V} {ds : List D} {vs : List V} : RD b H d v → RDs b H ds vs → RDs b H (d :: ds) (v :: vs)
end
/-- an object of the store -/
def OR (b : Bt) (H : Hp) (o : SO) (a : Addr) : Prop := match o with
  | .lst xs => ∃ vs, H a = some (.lst vs) ∧ RDs K mg b H xs vs
  | .dic kvs => ∃ kvs', H a = some (.dK kvs') ∧ kvs.map (·.1) = kvs'.map (·.1) ∧ RDs K mg b H (kvs.map (·.2)) (kvs'.map (·.2))
  | .ins C fs => ∃ Ca dx fs', H a = some (.ins Ca dx fs') ∧ mg C = some (.ref Ca) ∧ fs.map (·.1) = fs'.map (·.1) ∧ RDs K mg b H (fs.map (·.2)) (fs'.map (·.2))
structure SR (b : Bt) (S : Store) (H : Hp) : Prop where
  len : b.β.length = S.length
  nd : b.β.Nodup
  sub : ∀ a ∈ b.β, a ∈ b.av
  own : ∀ a ∈ b.av, H a ≠ none
  obj : ∀ (n : Nat) (o : SO) (a : Addr), S[n]? = some o → b.β[n]? = some a → OR K mg b H o a
end

/-- what lies between two states: new objects, and the store's own changed -/
structure Ext (b : Bt) (H : Hp) (b' : Bt) (H' : Hp) : Prop where
  ex : ∃ γ δ : List Addr, b'.β = b.β ++ γ ∧ b'.av = b.av ++ δ ∧ (∀ a ∈ γ, H a = none) ∧ ∀ a ∈ δ, H a = none
  keep : ∀ a o, H a = some o → a ∉ b.β → H' a = some o
  there : ∀ a, H a ≠ none → H' a ≠ none

theorem nil_none {H : Hp} : ∀ a ∈ ([] : List Addr), H a = none := fun _ h => nomatch h
theorem Ext.refl {b : Bt} {H : Hp} : Ext b H b H := ⟨⟨[], [], by simp, by simp, nil_none, nil_none⟩, fun _ _ h _ => h, fun _ h => h⟩
theorem Ext.trans {b b1 b2 : Bt} {H H1 H2 : Hp} (x : Ext b H b1 H1) (y : Ext b1 H1 b2 H2) : Ext b H b2 H2 := by
  obtain ⟨γ, γ', e1, e2, f, f'⟩ := x.ex
  obtain ⟨δ, δ', g1, g2, h, h'⟩ := y.ex
  have back : ∀ a, H1 a = none → H a = none := fun a z => by
    cases q : H a with
    | none => rfl
    | some o => exact absurd z (x.there a (by rw [q]; exact fun z => nomatch z))
  refine ⟨⟨γ ++ δ, γ' ++ δ', by rw [g1, e1, List.append_assoc], by rw [g2, e2, List.append_assoc], fun a ha => ?_, fun a ha => ?_⟩, fun a o ho hn => ?_, fun a h => y.there a (x.there a h)⟩
  · rcases List.mem_append.mp ha with z | z
    · exact f a z
    · exact back a (h a z)
  · rcases List.mem_append.mp ha with z | z
    · exact f' a z
    · exact back a (h' a z)
  · refine y.keep a o (x.keep a o ho hn) fun z => ?_
    rw [e1] at z
    rcases List.mem_append.mp z with z | z
    · exact hn z
    · rw [f a z] at ho; cases ho
/-- an address that may not be taken as frozen stays so; one that may too -/
theorem Ext.nav {b b' : Bt} {H H' : Hp} (x : Ext b H b' H') {a : Addr} (h : H a ≠ none) (n : a ∉ b.av) : a ∉ b'.av := fun z => by
  obtain ⟨γ, δ, _, e2, _, f⟩ := x.ex
  rw [e2] at z
  rcases List.mem_append.mp z with z | z
  · exact n z
  · exact h (f a z)
theorem Ext.nb {b b' : Bt} {H H' : Hp} (x : Ext b H b' H') {a : Addr} (h : H a ≠ none) (n : a ∉ b.β) : a ∉ b'.β := fun z => by
  obtain ⟨γ, δ, e1, _, f, _⟩ := x.ex
  rw [e1] at z
  rcases List.mem_append.mp z with z | z
  · exact n z
  · exact h (f a z)
theorem Ext.pre {b b' : Bt} {H H' : Hp} (x : Ext b H b' H') {n : Nat} {a : Addr} (h : b.β[n]? = some a) : b'.β[n]? = some a := by
  obtain ⟨γ, δ, e1, _, _, _⟩ := x.ex
  obtain ⟨hl, _⟩ := List.getElem?_eq_some_iff.mp h
  rw [e1, List.getElem?_append_left hl]
  exact h

section
variable {K : PySem.W.Frag} {mg : Str → Option Value} {b b' : Bt} {H H' : Hp}
theorem FzL.ok {a : Addr} {vs : List V} (h : FzL b H a vs) (K : PySem.W.Frag) : SqL K H a vs := .inl (.inl h.1)
theorem FzK.ok {a : Addr} {vs : List V} (h : FzK K b H a vs) : SqL K H a vs := by
  rcases h with ⟨h, _⟩ | h
  · exact .inl h
  · exact .inr h
theorem FzT.ok {a : Addr} {vs : List V} (h : FzT K b H a vs) : SqT K H a vs := by
  rcases h with ⟨h, _⟩ | h
  · exact .inl h
  · exact .inr h
theorem Rd_ne {a : Addr} {u : HO} (h : Rd H a u) : H a ≠ none := by
  rcases h with h | ⟨o, h⟩ <;> (rw [h]; exact fun z => nomatch z)
theorem Rd_mono {a : Addr} {u : HO} (h : Rd H a u) (x : Ext b H b' H') (n : a ∉ b.β) : Rd H' a u := by
  rcases h with h | ⟨o, h⟩
  · exact .inl (x.keep _ _ h n)
  · exact .inr ⟨o, x.keep _ _ h n⟩
mutual
theorem RD.mono (x : Ext b H b' H') (sub : ∀ a ∈ b.β, a ∈ b.av) : ∀ {d : D} {v : V}, RD K mg b H d v → RD K mg b' H' d v
  | _, _, .non => .non
  | _, _, .bl k => .bl k
  | _, _, .int i => .int i
  | _, _, .str y => .str y
  | _, _, .tup h r => .tup (by
      rcases h with ⟨h, n⟩ | h
      · exact .inl ⟨Rd_mono h x fun z => n (sub _ z), x.nav (Rd_ne h) n⟩
      · exact .inr h) (RDs.mono x sub r)
  | _, _, .lst ⟨h, n⟩ r => .lst ⟨x.keep _ _ h fun z => n (sub _ z), x.nav (by rw [h]; exact fun z => nomatch z) n⟩ (RDs.mono x sub r)
  | _, _, .kl h r => .kl (by
      rcases h with ⟨h, n⟩ | h
      · exact .inl ⟨Rd_mono h x fun z => n (sub _ z), x.nav (Rd_ne h) n⟩
      · exact .inr h) (RDs.mono x sub r)
  | _, _, .ref h => .ref (x.pre h)
  | _, _, .fn h => .fn h
theorem RDs.mono (x : Ext b H b' H') (sub : ∀ a ∈ b.β, a ∈ b.av) : ∀ {ds : List D} {vs : List V}, RDs K mg b H ds vs → RDs K mg b' H' ds vs
  | _, _, .nil => .nil
  | _, _, .cons h r => .cons (RD.mono x sub h) (RDs.mono x sub r)
end
mutual
/-- places that are not to be frozen may be let go -/
theorem RD.weak (hβ : ∀ (n : Nat) (a : Addr), b.β[n]? = some a → b'.β[n]? = some a) (hav : ∀ a ∈ b'.av, a ∈ b.av) : ∀ {d : D} {v : V}, RD K mg b H d v → RD K mg b' H d v
  | _, _, .non => .non
  | _, _, .bl k => .bl k
  | _, _, .int i => .int i
  | _, _, .str y => .str y
  | _, _, .tup h r => .tup (by
      rcases h with ⟨h, n⟩ | h
      · exact .inl ⟨h, fun z => n (hav _ z)⟩
      · exact .inr h) (RDs.weak hβ hav r)
  | _, _, .lst ⟨h, n⟩ r => .lst ⟨h, fun z => n (hav _ z)⟩ (RDs.weak hβ hav r)
  | _, _, .kl h r => .kl (by
      rcases h with ⟨h, n⟩ | h
      · exact .inl ⟨h, fun z => n (hav _ z)⟩
      · exact .inr h) (RDs.weak hβ hav r)
  | _, _, .ref h => .ref (hβ _ _ h)
  | _, _, .fn h => .fn h
theorem RDs.weak (hβ : ∀ (n : Nat) (a : Addr), b.β[n]? = some a → b'.β[n]? = some a) (hav : ∀ a ∈ b'.av, a ∈ b.av) : ∀ {ds : List D} {vs : List V}, RDs K mg b H ds vs → RDs K mg b' H ds vs
  | _, _, .nil => .nil
  | _, _, .cons h r => .cons (RD.weak hβ hav h) (RDs.weak hβ hav r)
end
theorem OR.weak (hβ : ∀ (n : Nat) (a : Addr), b.β[n]? = some a → b'.β[n]? = some a) (hav : ∀ a ∈ b'.av, a ∈ b.av) {o : SO} {a : Addr} (h : OR K mg b H o a) : OR K mg b' H o a := by
  cases o with
  | lst xs => obtain ⟨vs, h1, r⟩ := h; exact ⟨vs, h1, r.weak hβ hav⟩
  | dic kvs => obtain ⟨kvs', h1, k, r⟩ := h; exact ⟨kvs', h1, k, r.weak hβ hav⟩
  | ins C fs => obtain ⟨Ca, dx, fs', h1, m, k, r⟩ := h; exact ⟨Ca, dx, fs', h1, m, k, r.weak hβ hav⟩
mutual
theorem RD.heap (h : ∀ a o, H a = some o → a ∉ b.av → H' a = some o) : ∀ {d : D} {v : V}, RD K mg b H d v → RD K mg b H' d v
  | _, _, .non => .non
  | _, _, .bl k => .bl k
  | _, _, .int i => .int i
  | _, _, .str y => .str y
  | _, _, .tup f r => .tup (by
      rcases f with ⟨f | ⟨o, f⟩, n⟩ | f
      · exact .inl ⟨.inl (h _ _ f n), n⟩
      · exact .inl ⟨.inr ⟨o, h _ _ f n⟩, n⟩
      · exact .inr f) (RDs.heap h r)
  | _, _, .lst ⟨f, n⟩ r => .lst ⟨h _ _ f n, n⟩ (RDs.heap h r)
  | _, _, .kl f r => .kl (by
      rcases f with ⟨f | ⟨o, f⟩, n⟩ | f
      · exact .inl ⟨.inl (h _ _ f n), n⟩
      · exact .inl ⟨.inr ⟨o, h _ _ f n⟩, n⟩
      · exact .inr f) (RDs.heap h r)
  | _, _, .ref e => .ref e
  | _, _, .fn e => .fn e
theorem RDs.heap (h : ∀ a o, H a = some o → a ∉ b.av → H' a = some o) : ∀ {ds : List D} {vs : List V}, RDs K mg b H ds vs → RDs K mg b H' ds vs
  | _, _, .nil => .nil
  | _, _, .cons f r => .cons (RD.heap h f) (RDs.heap h r)
end
theorem RDs.length : ∀ {ds : List D} {vs : List V}, RDs K mg b H ds vs → ds.length = vs.length
  | _, _, .nil => rfl
  | _, _, .cons _ r => congrArg Nat.succ r.length
theorem RDs.append : ∀ {ds es : List D} {vs ws : List V}, RDs K mg b H ds vs → RDs K mg b H es ws → RDs K mg b H (ds ++ es) (vs ++ ws)
  | _, _, _, _, .nil, s => s
  | _, _, _, _, .cons h r, s => .cons h (RDs.append r s)
theorem RDs.get : ∀ {ds : List D} {vs : List V} {i : Nat} {d : D}, RDs K mg b H ds vs → ds[i]? = some d → ∃ v, vs[i]? = some v ∧ RD K mg b H d v
  | _, _, _, _, .nil, e => by simp at e
  | _, _, 0, _, .cons h _, e => by simp at e; subst e; exact ⟨_, rfl, h⟩
  | _, _, i + 1, _, .cons _ r, e => by
    obtain ⟨v, h1, h2⟩ := RDs.get (i := i) r (by simpa using e)
    exact ⟨v, by simpa using h1, h2⟩
theorem RDs.getV : ∀ {ds : List D} {vs : List V} {i : Nat} {v : V}, RDs K mg b H ds vs → vs[i]? = some v → ∃ d, ds[i]? = some d ∧ RD K mg b H d v
  | _, _, _, _, .nil, e => by simp at e
  | _, _, 0, _, .cons h _, e => by simp at e; subst e; exact ⟨_, rfl, h⟩
  | _, _, i + 1, _, .cons _ r, e => by
    obtain ⟨v, h1, h2⟩ := RDs.getV (i := i) r (by simpa using e)
    exact ⟨v, by simpa using h1, h2⟩
theorem RDs.drop : ∀ {ds : List D} {vs : List V} (n : Nat), RDs K mg b H ds vs → RDs K mg b H (ds.drop n) (vs.drop n)
  | _, _, 0, r => r
  | _, _, _ + 1, .nil => .nil
  | _, _, n + 1, .cons _ r => RDs.drop n r
theorem RDs.take : ∀ {ds : List D} {vs : List V} (n : Nat), RDs K mg b H ds vs → RDs K mg b H (ds.take n) (vs.take n)
  | _, _, 0, _ => .nil
  | _, _, _ + 1, .nil => .nil
  | _, _, n + 1, .cons h r => .cons h (RDs.take n r)
theorem RDs.cut {ds : List D} {vs : List V} (r : RDs K mg b H ds vs) (lo hi : Option Int) : RDs K mg b H (cutD ds lo hi) (cutV vs lo hi) := by
  unfold cutD cutV
  rw [r.length]
  exact (r.drop _).take _
theorem RDs.set : ∀ {ds : List D} {vs : List V} {d : D} {v : V} (i : Nat), RDs K mg b H ds vs → RD K mg b H d v → RDs K mg b H (ds.set i d) (vs.set i v)
  | _, _, _, _, _, .nil, _ => .nil
  | _, _, _, _, 0, .cons _ r, q => .cons q r
  | _, _, _, _, i + 1, .cons h r, q => .cons h (RDs.set i r q)
theorem RDs.dropLast {ds : List D} {vs : List V} (r : RDs K mg b H ds vs) : RDs K mg b H ds.dropLast vs.dropLast := by
  rw [List.dropLast_eq_take, List.dropLast_eq_take, r.length]
  exact r.take _
theorem RDs.rep {ds : List D} {vs : List V} (r : RDs K mg b H ds vs) : ∀ k : Nat, RDs K mg b H (List.replicate k ds).flatten (List.replicate k vs).flatten
  | 0 => .nil
  | k + 1 => by
    rw [List.replicate_succ, List.replicate_succ, List.flatten_cons, List.flatten_cons]
    exact r.append (RDs.rep r k)

/-! ### states -/
/-- a def's slots -/
def EnvR (K : PySem.W.Frag) (mg : Str → Option Value) (b : Bt) (H : Hp) (ρ : Rho) (σ : St) : Prop := ρ.length = σ.length ∧ ∀ (i : Nat) (d : D), ρ[i]? = some (some d) → ∃ v, σ[i]? = some (some v) ∧ RD K mg b H d v
theorem EnvR.mono {ρ : Rho} {σ : St} (x : Ext b H b' H') (sub : ∀ a ∈ b.β, a ∈ b.av) (h : EnvR K mg b H ρ σ) : EnvR K mg b' H' ρ σ :=
  ⟨h.1, fun i d e => let ⟨v, e1, r⟩ := h.2 i d e; ⟨v, e1, r.mono x sub⟩⟩
theorem EnvR.set {ρ : Rho} {σ : St} (h : EnvR K mg b H ρ σ) {d : D} {v : V} (r : RD K mg b H d v) (i : Nat) : EnvR K mg b H (setN ρ i d) (σ.set i (some v)) := by
  unfold setN
  refine ⟨by rw [List.length_set, List.length_set]; exact h.1, fun j e q => ?_⟩
  by_cases hj : i = j
  · subst hj
    by_cases hl : i < ρ.length
    · rw [List.getElem?_set_self hl] at q
      cases q
      exact ⟨v, List.getElem?_set_self (by rw [← h.1]; exact hl), r⟩
    · rw [List.getElem?_eq_none (by rw [List.length_set]; omega)] at q
      cases q
  · rw [List.getElem?_set_ne hj] at q
    obtain ⟨w, e1, r1⟩ := h.2 j e q
    exact ⟨w, by rw [List.getElem?_set_ne hj]; exact e1, r1⟩
theorem EnvR.wipe {ρ : Rho} {σ : St} (h : EnvR K mg b H ρ σ) : ∀ vs : List Nat, EnvR K mg b H (wipeR ρ vs) (L2.wipe σ vs)
  | [] => h
  | i :: vs => by
    have ih := h.wipe vs
    unfold wipeR L2.wipe
    refine ⟨by rw [List.length_set, List.length_set]; exact ih.1, fun j e q => ?_⟩
    by_cases hj : i = j
    · subst hj
      by_cases hl : i < (wipeR ρ vs).length
      · rw [List.getElem?_set_self hl] at q; cases q
      · rw [List.getElem?_eq_none (by rw [List.length_set]; omega)] at q; cases q
    · rw [List.getElem?_set_ne hj] at q
      obtain ⟨w, e1, r1⟩ := ih.2 j e q
      exact ⟨w, by rw [List.getElem?_set_ne hj]; exact e1, r1⟩

/-- a new object, not the store's -/
theorem ext_new {p : Addr} {o : HO} (hp : H p = none) : Ext b H b (upd H p o) :=
  ⟨⟨[], [], by simp, by simp, nil_none, nil_none⟩, fun a u h _ => by rw [upd_ne (ne_of_none h hp)]; exact h, fun a h => by
    by_cases e : a = p
    · subst e; rw [upd_same]; exact fun z => nomatch z
    · rw [upd_ne e]; exact h⟩
theorem SR.mono_obj {S : Store} (x : Ext b H b' H') (sub : ∀ a ∈ b.β, a ∈ b.av) {o : SO} {a : Addr} (h : OR K mg b H o a) (e : H' a = H a) : OR K mg b' H' o a := by
  cases o with
  | lst xs => obtain ⟨vs, h1, r⟩ := h; exact ⟨vs, e.trans h1, r.mono x sub⟩
  | dic kvs => obtain ⟨kvs', h1, k, r⟩ := h; exact ⟨kvs', e.trans h1, k, r.mono x sub⟩
  | ins C fs => obtain ⟨Ca, dx, fs', h1, m, k, r⟩ := h; exact ⟨Ca, dx, fs', e.trans h1, m, k, r.mono x sub⟩
theorem SR.new {S : Store} {p : Addr} {o : HO} (s : SR K mg b S H) (hp : H p = none) : SR K mg b S (upd H p o) := by
  refine ⟨s.len, s.nd, s.sub, fun a ha => (ext_new (b := b) (o := o) hp).there a (s.own a ha), fun n u a h1 h2 => ?_⟩
  have ne : a ≠ p := fun z => s.own a (s.sub a (List.mem_of_getElem? h2)) (by rw [z]; exact hp)
  exact SR.mono_obj (S := S) (ext_new hp) s.sub (s.obj n u a h1 h2) (upd_ne ne)
theorem SR.nav {S : Store} {p : Addr} (s : SR K mg b S H) (hp : H p = none) : p ∉ b.av := fun z => s.own p z hp
/-- the new object becomes the store's -/
def Bt.snoc (b : Bt) (p : Addr) : Bt := ⟨b.β ++ [p], b.av ++ [p]⟩
theorem ext_alloc {p : Addr} {o : HO} (hp : H p = none) : Ext b H (b.snoc p) (upd H p o) :=
  ⟨⟨[p], [p], rfl, rfl, fun a h => by rw [List.mem_singleton.mp h]; exact hp, fun a h => by rw [List.mem_singleton.mp h]; exact hp⟩, (ext_new (b := b) (o := o) hp).keep, (ext_new (b := b) (o := o) hp).there⟩
theorem SR.alloc {S : Store} {p : Addr} {o : HO} {u : SO} (s : SR K mg b S H) (hp : H p = none) (hu : OR K mg (b.snoc p) (upd H p o) u p) : SR K mg (b.snoc p) (S ++ [u]) (upd H p o) := by
  have x : Ext b H (b.snoc p) (upd H p o) := ext_alloc hp
  refine ⟨by show (b.β ++ [p]).length = _; rw [List.length_append, List.length_append, s.len]; rfl, ?_, fun a ha => ?_, fun a ha => ?_, fun n v a h1 h2 => ?_⟩
  · show (b.β ++ [p]).Nodup
    rw [List.nodup_append]
    refine ⟨s.nd, List.nodup_cons.mpr ⟨by simp, List.nodup_nil⟩, fun a ha c hc e => ?_⟩
    rw [List.mem_singleton.mp hc] at e
    exact s.nav hp (by rw [← e]; exact s.sub a ha)
  · rcases List.mem_append.mp ha with z | z
    · exact List.mem_append_left _ (s.sub a z)
    · exact List.mem_append_right _ z
  · rcases List.mem_append.mp ha with z | z
    · exact x.there a (s.own a z)
    · rw [List.mem_singleton.mp z, upd_same]; exact fun z => nomatch z
  · have h2' : (b.β ++ [p])[n]? = some a := h2
    by_cases hn : n < S.length
    · rw [List.getElem?_append_left hn] at h1
      rw [List.getElem?_append_left (by rw [s.len]; exact hn)] at h2'
      have ne : a ≠ p := fun z => s.own a (s.sub a (List.mem_of_getElem? h2')) (by rw [z]; exact hp)
      exact SR.mono_obj (S := S) x s.sub (s.obj n v a h1 h2') (upd_ne ne)
    · have e : n = S.length := by
        obtain ⟨q, _⟩ := List.getElem?_eq_some_iff.mp h1
        rw [List.length_append, List.length_singleton] at q
        omega
      subst e
      rw [List.getElem?_concat_length] at h1
      rw [← s.len, List.getElem?_concat_length] at h2'
      cases h1; cases h2'
      exact hu
/-- an object of the store is changed -/
theorem ext_upd {S : Store} {n : Nat} {a : Addr} {o : HO} (s : SR K mg b S H) (hb : b.β[n]? = some a) : Ext b H b (upd H a o) :=
  ⟨⟨[], [], by simp, by simp, nil_none, nil_none⟩, fun c u h hn => by rw [upd_ne (fun e => hn (by rw [e]; exact List.mem_of_getElem? hb))]; exact h, fun c h => by
    by_cases e : c = a
    · subst e; rw [upd_same]; exact fun z => nomatch z
    · rw [upd_ne e]; exact h⟩
theorem nodup_at {α : Type} {l : List α} (h : l.Nodup) {i j : Nat} {a : α} (h1 : l[i]? = some a) (h2 : l[j]? = some a) : i = j := by
  obtain ⟨q1, e1⟩ := List.getElem?_eq_some_iff.mp h1
  obtain ⟨q2, e2⟩ := List.getElem?_eq_some_iff.mp h2
  exact (List.getElem_inj h).mp (e1.trans e2.symm)
theorem SR.upd {S : Store} {n : Nat} {a : Addr} {o : HO} {u : SO} (s : SR K mg b S H) (hb : b.β[n]? = some a) (hu : OR K mg b (upd H a o) u a) : SR K mg b (S.set n u) (upd H a o) := by
  have x : Ext b H b (L2.upd H a o) := ext_upd s hb
  refine ⟨by rw [List.length_set]; exact s.len, s.nd, s.sub, fun c hc => x.there c (s.own c hc), fun m v c h1 h2 => ?_⟩
  by_cases hm : n = m
  · subst hm
    rw [hb] at h2
    cases h2
    by_cases hl : n < S.length
    · rw [List.getElem?_set_self hl] at h1
      cases h1
      exact hu
    · rw [List.getElem?_eq_none (by rw [List.length_set]; omega)] at h1
      cases h1
  · rw [List.getElem?_set_ne hm] at h1
    have ne : c ≠ a := fun z => hm (nodup_at s.nd hb (by rw [← z]; exact h2))
    exact SR.mono_obj (S := S) x s.sub (s.obj m v c h1 h2) (upd_ne ne)
end

/-! ### readings -/
section
variable (K : PySem.W.Frag) (mg : Str → Option Value)
/-- an exception as data -/
def RX0 (b : Bt) (H : Hp) (x : Exn) (cls : Value) (dd : Option Addr) : Prop := x.args = [] ∧ dd = none ∧ ∃ a, mg x.cls = some (.ref a) ∧ cls = .ref a
def okD0 (b : Bt) (H : Hp) (Q : VK) (d : D) (S' : Store) : Prop := ∀ b' H' v, Ext b H b' H' → SR K mg b' S' H' → RD K mg b' H' d v → Q v H'
def okDs0 (b : Bt) (H : Hp) (Q : List V → Hp → Prop) (d : List D) (S' : Store) : Prop := ∀ b' H' v, Ext b H b' H' → SR K mg b' S' H' → RDs K mg b' H' d v → Q v H'
def exD0 (b : Bt) (H : Hp) (E : XK) (x : Exn) (S' : Store) : Prop := ∀ b' H' cls dd, Ext b H b' H' → SR K mg b' S' H' → RX0 mg b' H' x cls dd → E cls dd H'
def finD0 (b : Bt) (H : Hp) (Q : VK) (E : XK) : Res D → Prop
  | .ok d S => okD0 K mg b H Q d S
  | .exn x S => exD0 K mg b H E x S
  | .bad => False
def finDs0 (b : Bt) (H : Hp) (Q : List V → Hp → Prop) (E : XK) : Res (List D) → Prop
  | .ok d S => okDs0 K mg b H Q d S
  | .exn x S => exD0 K mg b H E x S
  | .bad => False
def finB0 (b : Bt) (H : Hp) (Q : Bool → Hp → Prop) (E : XK) : Res Bool → Prop
  | .ok k S => ∀ b' H', Ext b H b' H' → SR K mg b' S H' → Q k H'
  | .exn x S => exD0 K mg b H E x S
  | .bad => False
/-- the state at a place of a body -/
structure At0 (b : Bt) (ρ : Rho) (S : Store) (σ : St) (H : Hp) : Prop where
  sr : SR K mg b S H
  env : EnvR K mg b H ρ σ
end
section
variable (X : Cx)
abbrev RX := RX0 X.mg
abbrev okD := okD0 X.K X.mg
abbrev okDs := okDs0 X.K X.mg
abbrev exD := exD0 X.K X.mg
abbrev finD := finD0 X.K X.mg
abbrev finDs := finDs0 X.K X.mg
abbrev finB := finB0 X.K X.mg
abbrev At := At0 X.K X.mg
def tE (W : WX) (m : M D) : TE := fun σ H Q => ∃ b ρ S, At X b ρ S σ H ∧ finD X b H Q (fun c d H' => W c d σ H') (m ρ S)
def tA (W : WX) (m : M (List D)) : TA := fun σ H Q => ∃ b ρ S, At X b ρ S σ H ∧ finDs X b H Q (fun c d H' => W c d σ H') (m ρ S)
def tB (W : WX) (m : M Bool) : TT := fun σ H Q => ∃ b ρ S, At X b ρ S σ H ∧ finB X b H Q (fun c d H' => W c d σ H') (m ρ S)
end
section
variable {X : Cx} {W : WX} {b b' : Bt} {ρ : Rho} {S S' : Store} {σ : St} {H H' : Hp}
theorem At0.mono (a : At X b ρ S σ H) (x : Ext b H b' H') (s : SR X.K X.mg b' S' H') : At X b' ρ S' σ H' := ⟨s, a.env.mono x a.sr.sub⟩
theorem exD0.mono {E : XK} {x : Exn} (e : Ext b H b' H') (h : exD X b H E x S') : exD X b' H' E x S' := fun b2 H2 c d y s r => h b2 H2 c d (e.trans y) s r
theorem finD0.mono {Q : VK} {E : XK} {r : Res D} (e : Ext b H b' H') (h : finD X b H Q E r) : finD X b' H' Q E r := by
  cases r with
  | ok d S => exact fun b2 H2 v y s r => h b2 H2 v (e.trans y) s r
  | exn x S => exact exD0.mono e h
  | bad => exact h
theorem finDs0.mono {Q : List V → Hp → Prop} {E : XK} {r : Res (List D)} (e : Ext b H b' H') (h : finDs X b H Q E r) : finDs X b' H' Q E r := by
  cases r with
  | ok d S => exact fun b2 H2 v y s r => h b2 H2 v (e.trans y) s r
  | exn x S => exact exD0.mono e h
  | bad => exact h
theorem finB0.mono {Q : Bool → Hp → Prop} {E : XK} {r : Res Bool} (e : Ext b H b' H') (h : finB X b H Q E r) : finB X b' H' Q E r := by
  cases r with
  | ok d S => exact fun b2 H2 y s => h b2 H2 (e.trans y) s
  | exn x S => exact exD0.mono e h
  | bad => exact h
/-- a part is read first -/
theorem seqD {Q : VK} {m : M D} {f : D → Store → Res D} {R : VK} {E : XK} (a : At X b ρ S σ H) (h : finD X b H Q E ((m ρ S).bind f))
    (k : ∀ (b' : Bt) (H' : Hp) (v : V) (d : D) (S' : Store), Ext b H b' H' → SR X.K X.mg b' S' H' → RD X.K X.mg b' H' d v → finD X b' H' Q E (f d S') → R v H') : finD X b H R E (m ρ S) := by
  cases q : m ρ S with
  | ok d S1 =>
    rw [q] at h
    exact fun b' H' v x s r => k b' H' v d S1 x s r (h.mono x)
  | exn x S1 => rw [q] at h; exact h
  | bad => rw [q] at h; exact h
end
end DL
/-! DL3: operators, comparisons, calls of built-ins by data. -/
namespace DL
open PySem PySem.Spec L2
open PyProof.Rows hiding St

theorem _root_.L2.PE.imp' {X : Cx} {e : Expr} {t t' : TE} (h : PE X e t) (k : ∀ σ H Q, t' σ H Q → t σ H Q) : PE X e t' := ⟨fun pins s σ H Q I hw => h.run pins s σ H Q I (k σ H Q hw)⟩
theorem _root_.L2.PT.imp' {X : Cx} {e : Expr} {t t' : TT} (h : PT X e t) (k : ∀ σ H Q, t' σ H Q → t σ H Q) : PT X e t' := ⟨fun pins s σ H Q I hw => h.run pins s σ H Q I (k σ H Q hw)⟩
theorem _root_.L2.PA.imp' {X : Cx} {e : List Expr} {t t' : TA} (h : PA X e t) (k : ∀ σ H Q, t' σ H Q → t σ H Q) : PA X e t' := ⟨fun pos pins s σ H Q I hw => h.run pos pins s σ H Q I (k σ H Q hw)⟩
theorem _root_.L2.PS.imp' {X : Cx} {e : Stmt} {t t' : TS} (h : PS X e t) (k : ∀ D σ H, t' D σ H → t D σ H) : PS X e t' := ⟨fun pins s σ H D I hw => h.run pins s σ H D I (k D σ H hw)⟩
theorem _root_.L2.PSs.imp' {X : Cx} {e : List Stmt} {t t' : TS} (h : PSs X e t) (k : ∀ D σ H, t' D σ H → t D σ H) : PSs X e t' := ⟨fun pins s σ H D I hw => h.run pins s σ H D I (k D σ H hw)⟩

theorem line24 : sizeLine = 16777216 := sizeLine_eq

section
variable {X : Cx} {W : WX} {b b' : Bt} {ρ : Rho} {S S' : Store} {σ : L2.St} {H H' : Hp}

/-! ### items -/
theorem ref_lst (sr : SR X.K X.mg b S H) {n : Nat} {a : Addr} {xs : List D} (h : S[n]? = some (.lst xs)) (hb : b.β[n]? = some a) : ∃ vs, H a = some (.lst vs) ∧ RDs X.K X.mg b H xs vs := sr.obj n _ a h hb
theorem ownOf_ok (sr : SR X.K X.mg b S H) {d : D} {v : V} {xs : List D} (h : ownOf S d = some xs) (r : RD X.K X.mg b H d v) : ∃ a vs, v = .ref a ∧ H a = some (.lst vs) ∧ RDs X.K X.mg b H xs vs := by
  cases r with
  | lst f r => cases h; exact ⟨_, _, rfl, f.1, r⟩
  | @ref n a hb =>
    unfold ownOf at h
    simp only at h
    split at h
    · rename_i ys q
      cases h
      obtain ⟨vs, h1, r⟩ := ref_lst sr q hb
      exact ⟨_, vs, rfl, h1, r⟩
    · cases h
  | _ => cases h
theorem lstOf_ok (sr : SR X.K X.mg b S H) {d : D} {v : V} {xs : List D} (h : lstOf S d = some xs) (r : RD X.K X.mg b H d v) : ∃ a vs, v = .ref a ∧ SqL X.K H a vs ∧ RDs X.K X.mg b H xs vs := by
  cases r with
  | lst f r => cases h; exact ⟨_, _, rfl, f.ok _, r⟩
  | kl f r => cases h; exact ⟨_, _, rfl, f.ok, r⟩
  | @ref n a hb =>
    unfold lstOf at h
    simp only at h
    split at h
    · rename_i ys q
      cases h
      obtain ⟨vs, h1, r⟩ := ref_lst sr q hb
      exact ⟨_, vs, rfl, .inl (.inl h1), r⟩
    · cases h
  | _ => cases h
theorem seqOf_ok (sr : SR X.K X.mg b S H) {d : D} {v : V} {xs : List D} (h : seqOf S d = some xs) (r : RD X.K X.mg b H d v) : ∃ a vs, v = .ref a ∧ (SqL X.K H a vs ∨ SqT X.K H a vs) ∧ RDs X.K X.mg b H xs vs := by
  cases r with
  | tup f r => cases h; exact ⟨_, _, rfl, .inr f.ok, r⟩
  | lst f r => cases h; exact ⟨_, _, rfl, .inl (f.ok _), r⟩
  | kl f r => cases h; exact ⟨_, _, rfl, .inl f.ok, r⟩
  | @ref n a hb =>
    unfold seqOf at h
    simp only at h
    split at h
    · rename_i ys q
      cases h
      obtain ⟨vs, h1, r⟩ := ref_lst sr q hb
      exact ⟨_, vs, rfl, .inl (.inl (.inl h1)), r⟩
    · cases h
  | _ => cases h

/-! ### results that are no exceptions -/
def pfin (X : Cx) (b : Bt) (H : Hp) (Q : VK) : Res D → Prop
  | .ok d S => okD X b H Q d S
  | _ => False
/-- never an exception -/
def Res.calm {α : Type} : Res α → Prop
  | .exn _ _ => False
  | _ => True
theorem finD_pfin {Q : VK} {E : XK} {r : Res D} (c : r.calm) (h : finD X b H Q E r) : pfin X b H Q r := by
  cases r with
  | ok d S => exact h
  | exn x S => exact c.elim
  | bad => exact h
theorem newL_calm {m : Bool} {xs : List D} {S : Store} : (newL m xs S).calm := by cases m <;> trivial
theorem optR_calm {α : Type} {o : Option α} {S : Store} : (optR o S).calm := by cases o <;> trivial
theorem newL_ok {Q : VK} {m : Bool} {xs : List D} {vs : List V} {p : Addr} (sr : SR X.K X.mg b S H) (r : RDs X.K X.mg b H xs vs) (hp : H p = none) (h : pfin X b H Q (newL m xs S)) : Q (.ref p) (upd H p (.lst vs)) := by
  cases m with
  | false => exact h b _ _ (ext_new hp) (sr.new hp) (.lst ⟨upd_same, sr.nav hp⟩ (r.mono (ext_new hp) sr.sub))
  | true =>
    have x : Ext b H (b.snoc p) (upd H p (.lst vs)) := ext_alloc hp
    exact h (b.snoc p) _ _ x (sr.alloc hp ⟨vs, upd_same, r.mono x sr.sub⟩) (.ref (by show (b.β ++ [p])[S.length]? = some p; rw [← sr.len, List.getElem?_concat_length]))
theorem tup_ok {Q : VK} {xs : List D} {vs : List V} {p : Addr} (sr : SR X.K X.mg b S H) (r : RDs X.K X.mg b H xs vs) (hp : H p = none) (h : okD X b H Q (.tup xs) S) : Q (.ref p) (upd H p (.tup vs)) :=
  h b _ _ (ext_new hp) (sr.new hp) (.tup (.inl ⟨.inl upd_same, sr.nav hp⟩) (r.mono (ext_new hp) sr.sub))
theorem same_ok {Q : VK} {d : D} {v : V} (sr : SR X.K X.mg b S H) (r : RD X.K X.mg b H d v) (h : okD X b H Q d S) : Q v H := h b H v .refl sr r

/-! ### operators -/
def rD2 (X : Cx) (f : D → D → Store → Res D) : R2 := fun x y H Q => ∃ b S d e, SR X.K X.mg b S H ∧ RD X.K X.mg b H d x ∧ RD X.K X.mg b H e y ∧ pfin X b H Q (f d e S)
theorem r_op2 {f : D → D → Store → Res D} {ma mb : M D} {a c e : Expr} (hf : ∀ d e S, (f d e S).calm) (hr : ∀ {ta tb : TE}, PE X a ta → PE X c tb → PE X e (tOp (rD2 X f) ta tb))
    (ha : PE X a (tE X W ma)) (hc : PE X c (tE X W mb)) : PE X e (tE X W fun ρ S => (ma ρ S).bind fun x S1 => (mb ρ S1).bind fun y S2 => f x y S2) := by
  refine (hr ha hc).imp' fun σ H Q h => ?_
  obtain ⟨b, ρ, S, a0, h⟩ := h
  refine ⟨b, ρ, S, a0, seqD a0 h fun b1 H1 v d S1 x1 s1 r1 h1 => ⟨b1, ρ, S1, a0.mono x1 s1, seqD (a0.mono x1 s1) h1 fun b2 H2 u e S2 x2 s2 r2 h2 => ⟨b2, S2, d, e, s2, r1.mono x2 s1.sub, r2, finD_pfin (hf d e S2) h2⟩⟩⟩
theorem r_op1 {f : D → Store → Res D} {ma : M D} {a e : Expr} {r : V → Hp → VK → Prop} (hf : ∀ d S, (f d S).calm) (hr : ∀ {ta : TE}, PE X a ta → PE X e (fun σ H Q => ta σ H fun x H1 => r x H1 Q))
    (hk : ∀ b S d v H Q, SR X.K X.mg b S H → RD X.K X.mg b H d v → pfin X b H Q (f d S) → r v H Q)
    (ha : PE X a (tE X W ma)) : PE X e (tE X W fun ρ S => (ma ρ S).bind fun x S1 => f x S1) := by
  refine (hr ha).imp' fun σ H Q h => ?_
  obtain ⟨b, ρ, S, a0, h⟩ := h
  exact ⟨b, ρ, S, a0, seqD a0 h fun b1 H1 v d S1 x1 s1 r1 h1 => hk b1 S1 d v H1 Q s1 r1 (finD_pfin (hf d S1) h1)⟩

theorem binD_calm (m : Bool) (op : Bop) (x y : D) (S : Store) : (binD m op x y S).calm := by
  unfold binD
  split <;> first
    | trivial
    | (split <;> first | trivial | exact newL_calm | (split <;> first | trivial | exact newL_calm))
theorem op_addD (m : Bool) : OpR X (binaryOp .Add) (rD2 X (binD m .add)) := by
  intro pins s σ H x y v u Q I rx ry h
  obtain ⟨b, S, d, e, sr, rd, re, f⟩ := h
  have lists : ∀ {d e : D}, RD X.K X.mg b H d x → RD X.K X.mg b H e y → pfin X b H Q (match ownOf S d, ownOf S e with
    | some a, some b => if a.length + b.length ≤ 16777216 then newL m (a ++ b) S else .bad
    | _, _ => .bad) → wpAny (model X.prog X.w) X.A (binaryOp .Add v u) (EP X pins σ Q) X.xe s := fun {d e} rd re f => by
    split at f
    · rename_i xs ys q1 q2
      obtain ⟨a1, vs, rfl, h1, r1⟩ := ownOf_ok sr q1 rd
      obtain ⟨a2, ws, rfl, h2, r2⟩ := ownOf_ok sr q2 re
      split at f
      · rename_i hz
        refine op_cat pins s σ H _ _ v u Q I rx ry ⟨a1, a2, vs, ws, rfl, rfl, h1, h2, by rw [← r1.length, ← r2.length, line24]; exact hz, fun p hp => newL_ok sr (r1.append r2) hp f⟩
      · exact f.elim
    · exact f.elim
  cases rd with
  | int i =>
    cases re with
    | int j => exact op_add pins s σ H _ _ v u Q I rx ry ⟨i, j, rfl, rfl, same_ok sr (.int _) f⟩
    | _ => exact f.elim
  | str i =>
    cases re with
    | str j =>
      have f' : pfin X b H Q (if i.length + j.length ≤ 16777216 then .ok (.str (i ++ j)) S else .bad) := f
      split at f'
      · rename_i hz
        exact op_add_str pins s σ H _ _ v u Q I rx ry ⟨i, j, rfl, rfl, by rw [line24]; exact hz, same_ok sr (.str _) f'⟩
      · exact f'.elim
    | _ => exact f.elim
  | @tup a1 vs ds f1 r1 =>
    cases re with
    | @tup a2 ws es f2 r2 =>
      have f' : pfin X b H Q (if ds.length + es.length ≤ 16777216 then .ok (.tup (ds ++ es)) S else .bad) := f
      split at f'
      · rename_i hz
        refine op_catA pins s σ H _ _ v u Q I rx ry ⟨a1, a2, vs, ws, rfl, rfl, f1.ok, f2.ok, by rw [← r1.length, ← r2.length, line24]; exact hz, fun e => ?_, fun _ e => ?_, fun _ _ p hp => ?_⟩
        · subst e
          cases r1
          exact same_ok sr (.tup f2 r2) f'
        · subst e
          cases r2
          rw [List.append_nil] at f'
          exact same_ok sr (.tup f1 r1) f'
        · exact tup_ok sr (r1.append r2) hp f'
      · exact f'.elim
    | lst f2 r2 => exact f.elim
    | ref hb => exact f.elim
    | _ => exact f.elim
  | lst f1 r1 => exact lists (.lst f1 r1) re (by cases re <;> exact f)
  | ref hb => exact lists (.ref hb) re (by cases re <;> exact f)
  | _ => cases re <;> exact f.elim
theorem op_subD (m : Bool) : OpR X (binaryOp .Sub) (rD2 X (binD m .sub)) := by
  intro pins s σ H x y v u Q I rx ry h
  obtain ⟨b, S, d, e, sr, rd, re, f⟩ := h
  cases rd with
  | int i =>
    cases re with
    | int j => exact op_sub pins s σ H _ _ v u Q I rx ry ⟨i, j, rfl, rfl, same_ok sr (.int _) f⟩
    | _ => exact f.elim
  | _ => cases re <;> exact f.elim
theorem op_fdivD (m : Bool) : OpR X (binaryOp .FloorDiv) (rD2 X (binD m .fdiv)) := by
  intro pins s σ H x y v u Q I rx ry h
  obtain ⟨b, S, d, e, sr, rd, re, f⟩ := h
  cases rd with
  | int i =>
    cases re with
    | int j =>
      have f' : pfin X b H Q (if 0 < j ∧ j.natAbs < 1073741824 then .ok (.int (i / j)) S else .bad) := f
      split at f'
      · rename_i hz
        exact op_fdiv pins s σ H _ _ v u Q I rx ry ⟨i, j, rfl, rfl, ⟨hz.1, by omega⟩, same_ok sr (.int _) f'⟩
      · exact f'.elim
    | _ => exact f.elim
  | _ => cases re <;> exact f.elim
theorem op_modD (m : Bool) : OpR X (binaryOp .Mod) (rD2 X (binD m .mod)) := by
  intro pins s σ H x y v u Q I rx ry h
  obtain ⟨b, S, d, e, sr, rd, re, f⟩ := h
  cases rd with
  | int i =>
    cases re with
    | int j =>
      have f' : pfin X b H Q (if 0 < j then .ok (.int (i % j)) S else .bad) := f
      split at f'
      · rename_i hz
        exact op_mod pins s σ H _ _ v u Q I rx ry ⟨i, j, rfl, rfl, hz, same_ok sr (.int _) f'⟩
      · exact f'.elim
    | _ => exact f.elim
  | _ => cases re <;> exact f.elim
theorem op_powD (m : Bool) : OpR X (binaryOp .Pow) (rD2 X (binD m .pow)) := by
  intro pins s σ H x y v u Q I rx ry h
  obtain ⟨b, S, d, e, sr, rd, re, f⟩ := h
  cases rd with
  | int i =>
    cases re with
    | int j =>
      have f' : pfin X b H Q (if 0 ≤ j ∧ j.natAbs ≤ 1000000 ∧ i.natAbs ≤ 18446744073709551615 then .ok (.int (i ^ j.toNat)) S else .bad) := f
      split at f'
      · rename_i hz
        exact op_pow pins s σ H _ _ v u Q I rx ry ⟨i, j, rfl, rfl, ⟨hz.1, by omega, by omega⟩, same_ok sr (.int _) f'⟩
      · exact f'.elim
    | _ => exact f.elim
  | _ => cases re <;> exact f.elim
end
end DL
/-! DL4: more of these. -/
namespace DL
open PySem PySem.Spec L2
open PyProof.Rows hiding St
section
variable {X : Cx} {W : WX} {b b' : Bt} {ρ : Rho} {S S' : Store} {σ : L2.St} {H H' : Hp}
theorem rep_len {α : Type} (xs : List α) (k : Nat) : (List.replicate k xs).flatten.length = k * xs.length := by
  induction k with
  | zero => simp
  | succ k ih => rw [List.replicate_succ, List.flatten_cons, List.length_append, ih, Nat.succ_mul, Nat.add_comm]
theorem op_mulD (m : Bool) : OpR X (binaryOp .Mult) (rD2 X (binD m .mul)) := by
  intro pins s σ H x y v u Q I rx ry h
  obtain ⟨b, S, d, e, sr, rd, re, f⟩ := h
  have lists : ∀ {d : D} {k : Int}, RD X.K X.mg b H d x → y = .int k → pfin X b H Q (match ownOf S d with
    | some a => if 0 ≤ k ∧ k.natAbs ≤ 1000 ∧ a.length ≤ 1000 then newL m (List.replicate k.toNat a).flatten S else .bad
    | none => .bad) → wpAny (model X.prog X.w) X.A (binaryOp .Mult v u) (EP X pins σ Q) X.xe s := fun {d k} rd ek f => by
    subst ek
    split at f
    · rename_i xs q1
      obtain ⟨a1, vs, rfl, h1, r1⟩ := ownOf_ok sr q1 rd
      split at f
      · rename_i hz
        obtain ⟨z1, z2, z3⟩ := hz
        refine op_rep pins s σ H _ _ v u Q I rx ry ⟨a1, k, vs, rfl, rfl, h1, by omega, by omega, ?_, fun p hp => newL_ok sr (r1.rep _) hp f⟩
        rw [← r1.length, line24]
        have : xs.length * k.toNat ≤ 1000 * 1000 := Nat.mul_le_mul z3 (by omega)
        omega
      · exact f.elim
    · exact f.elim
  cases re with
  | int j =>
    cases rd with
    | int i =>
      have f' : pfin X b H Q (if i.natAbs ≤ 18446744073709551615 ∨ j.natAbs ≤ 18446744073709551615 then .ok (.int (i * j)) S else .bad) := f
      split at f'
      · rename_i hz
        exact op_mul pins s σ H _ _ v u Q I rx ry ⟨i, j, rfl, rfl, hz.elim (fun h => .inl ⟨by omega, by omega⟩) (fun h => .inr ⟨by omega, by omega⟩), same_ok sr (.int _) f'⟩
      · exact f'.elim
    | @tup a1 vs ds f1 r1 =>
      have f' : pfin X b H Q (if ds.isEmpty = false ∧ 2 ≤ j ∧ j.natAbs ≤ 1000 ∧ ds.length ≤ 1000 then .ok (.tup (List.replicate j.toNat ds).flatten) S else .bad) := f
      split at f'
      · rename_i hz
        obtain ⟨z0, z1, z2, z3⟩ := hz
        refine op_repT pins s σ H _ _ v u Q I rx ry ⟨a1, j, vs, rfl, rfl, f1.ok, fun e => ?_, z1, by omega, by rw [← r1.length]; exact z3, fun p hp => tup_ok sr (r1.rep _) hp f'⟩
        subst e
        cases r1
        cases z0
      · exact f'.elim
    | lst f1 r1 => exact lists (.lst f1 r1) rfl f
    | ref hb => exact lists (.ref hb) rfl f
    | _ => exact f.elim
  | _ => cases rd <;> exact f.elim

/-! ### == and in -/
mutual
theorem frzR_dp {g : Nat → Option D} (hg : ∀ (n : Nat) (a : Addr) (d : D) (p : PyData), b.β[n]? = some a → g n = some d → d.py = some p → Dp X.K H (.ref a) p) :
    ∀ {d : D} {v : V} {d' : D} {p : PyData}, RD X.K X.mg b H d v → frzR g d = some d' → d'.py = some p → Dp X.K H v p
  | .non, _, _, _, .non, h, q => by cases h; cases q; exact .non
  | .bl k, _, _, _, .bl _, h, q => by cases h; cases q; exact .bl k
  | .int i, _, _, _, .int _, h, q => by cases h; cases q; exact .int i
  | .str i, _, _, _, .str _, h, q => by cases h; cases q; exact .str i
  | .tup ds, _, _, _, .tup f r, h, q => by
    unfold frzR at h
    cases e : frzRs g ds with
    | none => rw [e] at h; cases h
    | some ds' =>
      rw [e] at h
      cases h
      unfold D.py at q
      cases e2 : D.pys ds' with
      | none => rw [e2] at q; cases q
      | some ps =>
        rw [e2] at q
        cases q
        exact .tup f.ok (frzRs_dp hg r e e2)
  | .lst ds, _, _, _, .lst f r, h, q => by
    unfold frzR at h
    cases e : frzRs g ds with
    | none => rw [e] at h; cases h
    | some ds' =>
      rw [e] at h
      cases h
      unfold D.py at q
      cases e2 : D.pys ds' with
      | none => rw [e2] at q; cases q
      | some ps =>
        rw [e2] at q
        cases q
        exact .lst (f.ok _) (frzRs_dp hg r e e2)
  | .kl ds, _, _, _, .kl f r, h, q => by
    unfold frzR at h
    cases e : frzRs g ds with
    | none => rw [e] at h; cases h
    | some ds' =>
      rw [e] at h
      cases h
      unfold D.py at q
      cases e2 : D.pys ds' with
      | none => rw [e2] at q; cases q
      | some ps =>
        rw [e2] at q
        cases q
        exact .lst f.ok (frzRs_dp hg r e e2)
  | .ref n, _, d', p, .ref hb, h, q => hg n _ d' p hb h q
  | .fn x, _, _, _, .fn _, h, q => by cases h; cases q
theorem frzRs_dp {g : Nat → Option D} (hg : ∀ (n : Nat) (a : Addr) (d : D) (p : PyData), b.β[n]? = some a → g n = some d → d.py = some p → Dp X.K H (.ref a) p) :
    ∀ {ds : List D} {vs : List V} {ds' : List D} {ps : List PyData}, RDs X.K X.mg b H ds vs → frzRs g ds = some ds' → D.pys ds' = some ps → DpAll X.K H vs ps
  | [], _, _, _, .nil, h, q => by cases h; cases q; exact .nil
  | d :: ds, _, _, _, .cons r rs, h, q => by
    unfold frzRs at h
    split at h
    · rename_i y ys e1 e2
      cases h
      unfold D.pys at q
      split at q
      · rename_i p ps e3 e4
        cases q
        exact .cons (frzR_dp hg r e1 e3) (frzRs_dp hg rs e2 e4)
      · cases q
    · cases h
end
theorem frz_dp (sr : SR X.K X.mg b S H) : ∀ (k : Nat) {d : D} {v : V} {d' : D} {p : PyData}, RD X.K X.mg b H d v → frz k S d = some d' → d'.py = some p → Dp X.K H v p
  | 0, _, _, _, _, r, h, q => frzR_dp (g := fun _ => none) (fun _ _ _ _ _ z => nomatch z) r h q
  | k + 1, _, _, _, _, r, h, q => by
    unfold frz at h
    refine frzR_dp (fun n a d p hb hn hp => ?_) r h q
    split at hn
    · rename_i xs e
      obtain ⟨vs, h1, r1⟩ := ref_lst sr e hb
      cases e2 : frzRs (fun m => frz k S (.ref m)) xs with
      | none => rw [e2] at hn; cases hn
      | some xs' =>
        rw [e2] at hn
        cases hn
        unfold D.py at hp
        cases e3 : D.pys xs' with
        | none => rw [e3] at hp; cases hp
        | some ps =>
          rw [e3] at hp
          cases hp
          refine .lst (.inl (.inl h1)) (frzRs_dp (fun m c d2 p2 hb2 hm hp2 => frz_dp sr k (.ref hb2) hm hp2) r1 e2 e3)
    · cases hn
theorem pyIn_dp (sr : SR X.K X.mg b S H) {d : D} {v : V} {p : PyData} (r : RD X.K X.mg b H d v) (h : pyIn S d = some p) : Dp X.K H v p := by
  unfold pyIn at h
  cases e : frz 60 S d with
  | none => rw [e] at h; cases h
  | some d' =>
    rw [e] at h
    exact frz_dp sr 60 r e h
theorem eqD_dp (sr : SR X.K X.mg b S H) {d e : D} {x y : V} {k : Bool} (rd : RD X.K X.mg b H d x) (re : RD X.K X.mg b H e y) (h : eqD S d e = some k) :
    ∃ p q, Dp X.K H x p ∧ Dp X.K H y q ∧ SeqAt.shaped p = true ∧ SeqAt.shaped q = true ∧ k = PyData.eqv p q := by
  unfold eqD at h
  split at h
  · rename_i p q e1 e2
    split at h
    · rename_i hs
      cases h
      rw [Bool.and_eq_true] at hs
      exact ⟨p, q, pyIn_dp sr rd e1, pyIn_dp sr re e2, hs.1, hs.2, rfl⟩
    · cases h
  · cases h
theorem flat_V {d : D} {v : V} (f : d.flat = true) (r : RD X.K X.mg b H d v) : flatV v = true := by
  cases r <;> first | rfl | cases f
theorem eqF_V {d e : D} {v u : V} (f : d.flat = true) (g : e.flat = true) (r : RD X.K X.mg b H d v) (q : RD X.K X.mg b H e u) : eqV v u = eqF d e := by
  cases r <;> first | (cases f; done) | (cases q <;> first | (cases g; done) | rfl)
theorem flats_V : ∀ {ds : List D} {vs : List V}, ds.all D.flat = true → RDs X.K X.mg b H ds vs → vs.all flatV = true
  | _, _, _, .nil => rfl
  | d :: ds, _, f, .cons r rs => by
    rw [List.all_cons, Bool.and_eq_true] at f
    rw [List.all_cons, Bool.and_eq_true]
    exact ⟨flat_V f.1 r, flats_V f.2 rs⟩
theorem inF_V {d : D} {v : V} (f : d.flat = true) (r : RD X.K X.mg b H d v) : ∀ {ds : List D} {vs : List V}, ds.all D.flat = true → RDs X.K X.mg b H ds vs → inV v vs = inF d ds
  | _, _, _, .nil => rfl
  | e :: ds, _, g, .cons q rs => by
    rw [List.all_cons, Bool.and_eq_true] at g
    have ih := inF_V f r g.2 rs
    unfold inV inF at ih ⊢
    rw [List.any_cons, List.any_cons, ih, eqF_V g.1 f q r]
/-- what in asks -/
def rInAll (K : PySem.W.Frag) (neg : Bool) : R2 := fun x y H Q => rIn K neg x y H Q ∨ (∃ (c : Nat) (z : Str), x = .str ⟨#[c]⟩ ∧ y = .str z ∧ Q (.bl (if neg then !decide (c ∈ z.cps.toList) else decide (c ∈ z.cps.toList))) H) ∨
  (∃ d ds, Dp K H x d ∧ Dp K H y (.list ds) ∧ SeqAt.shaped d = true ∧ SeqAt.shaped (.list ds) = true ∧ Q (.bl (if neg then !(ds.any fun z => PyData.eqv z d) else ds.any fun z => PyData.eqv z d)) H)
theorem op_inAll (hu : X.A.units + 65 < cLine) : OpR X (compareOp .In) (rInAll X.K false) := by
  intro pins s σ H x y v u Q I rx ry h
  rcases h with h | ⟨c, z, h1, h2, q⟩ | ⟨d, ds, h1, h2, h3, h4, q⟩
  · exact op_in_seq pins s σ H x y v u Q I rx ry h
  · exact op_in_sign pins s σ H x y v u Q I rx ry ⟨c, z, h1, h2, q⟩
  · exact op_inD hu pins s σ H x y v u Q I rx ry ⟨d, ds, h1, h2, h3, h4, q⟩
theorem op_notInAll (hu : X.A.units + 65 < cLine) : OpR X (compareOp .NotIn) (rInAll X.K true) := by
  intro pins s σ H x y v u Q I rx ry h
  rcases h with h | ⟨c, z, h1, h2, q⟩ | ⟨d, ds, h1, h2, h3, h4, q⟩
  · exact op_notIn_seq pins s σ H x y v u Q I rx ry h
  · exact op_notIn_sign pins s σ H x y v u Q I rx ry ⟨c, z, h1, h2, q⟩
  · exact op_notInD hu pins s σ H x y v u Q I rx ry ⟨d, ds, h1, h2, h3, h4, q⟩
theorem inD_ok (sr : SR X.K X.mg b S H) {d e : D} {x y : V} {k : Bool} {Q : VK} (neg : Bool) (rd : RD X.K X.mg b H d x) (re : RD X.K X.mg b H e y) (h : inD S d e = some k) (q : Q (.bl (if neg then !k else k)) H) : rInAll X.K neg x y H Q := by
  unfold inD at h
  split at h
  · rename_i c z
    split at h
    · rename_i hc
      cases h
      cases rd
      cases re
      refine .inr (.inl ⟨c.cps.getD 0 0, z, ?_, rfl, q⟩)
      obtain ⟨⟨l⟩⟩ := c
      match l, hc with
      | [a], _ => rfl
    · cases h
  · split at h
    · rename_i ys e1
      split at h
      · rename_i hf
        cases h
        rw [Bool.and_eq_true] at hf
        obtain ⟨a, vs, rfl, hs, r⟩ := seqOf_ok sr e1 re
        refine .inl ⟨a, vs, rfl, hs, flat_V hf.1 rd, flats_V hf.2 r, ?_⟩
        rw [inF_V hf.1 rd hf.2 r]
        exact q
      · split at h
        · rename_i p qs e2 e3
          split at h
          · rename_i hs
            cases h
            rw [Bool.and_eq_true] at hs
            exact .inr (.inr ⟨p, qs, pyIn_dp sr rd e2, pyIn_dp sr re e3, hs.1, hs.2, q⟩)
          · cases h
        · cases h
    · cases h
/-- a comparison by data -/
def rCmp (X : Cx) (op : Cop) : R2 := fun x y H Q => ∃ b S d e k, SR X.K X.mg b S H ∧ RD X.K X.mg b H d x ∧ RD X.K X.mg b H e y ∧ cmpD op d e S = some k ∧ Q (.bl k) H
def Cop.op : Cop → CmpOp
  | .eq => .Eq
  | .ne => .NotEq
  | .lt => .Lt
  | .le => .LtE
  | .gt => .Gt
  | .ge => .GtE
  | .is_ => .Is
  | .isnot => .IsNot
  | .in_ => .In
  | .notin => .NotIn
theorem op_cmpD (hu : X.A.units + 65 < cLine) : ∀ op : Cop, OpR X (compareOp op.op) (rCmp X op) := by
  intro op pins s σ H x y v u Q I rx ry h
  obtain ⟨b, S, d, e, k, sr, rd, re, f, q⟩ := h
  have fin : ∀ {k' : Bool}, k = k' → Q (.bl k') H := fun e => by rw [← e]; exact q
  cases op with
  | eq =>
    obtain ⟨p, p', h1, h2, h3, h4, e⟩ := eqD_dp sr rd re f
    exact op_eqD (by omega) pins s σ H x y v u Q I rx ry ⟨p, p', h1, h2, h3, h4, fin e⟩
  | ne =>
    have f' : (eqD S d e).map (!·) = some k := f
    cases e1 : eqD S d e with
    | none => rw [e1] at f'; cases f'
    | some k0 =>
      rw [e1] at f'
      cases f'
      obtain ⟨p, p', h1, h2, h3, h4, e⟩ := eqD_dp sr rd re e1
      exact op_neD (by omega) pins s σ H x y v u Q I rx ry ⟨p, p', h1, h2, h3, h4, fin (by rw [e])⟩
  | lt => cases rd <;> cases re <;> first | exact op_lt pins s σ H _ _ v u Q I rx ry ⟨_, _, rfl, rfl, fin (Option.some.inj f).symm⟩ | cases f
  | le => cases rd <;> cases re <;> first | exact op_le pins s σ H _ _ v u Q I rx ry ⟨_, _, rfl, rfl, fin (Option.some.inj f).symm⟩ | cases f
  | gt => cases rd <;> cases re <;> first | exact op_gt pins s σ H _ _ v u Q I rx ry ⟨_, _, rfl, rfl, fin (Option.some.inj f).symm⟩ | cases f
  | ge => cases rd <;> cases re <;> first | exact op_ge pins s σ H _ _ v u Q I rx ry ⟨_, _, rfl, rfl, fin (Option.some.inj f).symm⟩ | cases f
  | is_ =>
    cases re with
    | non => exact op_isN pins s σ H _ _ v u Q I rx ry ⟨rfl, fin (by cases rd <;> (cases f; rfl))⟩
    | bl k2 => cases rd <;> first | exact op_isBl pins s σ H _ _ v u Q I rx ry ⟨_, _, rfl, rfl, fin (Option.some.inj f).symm⟩ | cases f
    | _ => cases rd <;> cases f
  | isnot =>
    cases re with
    | non => exact op_notN pins s σ H _ _ v u Q I rx ry ⟨rfl, fin (by cases rd <;> (cases f; rfl))⟩
    | bl k2 => cases rd <;> first | exact op_notBl pins s σ H _ _ v u Q I rx ry ⟨_, _, rfl, rfl, fin (Option.some.inj f).symm⟩ | cases f
    | _ => cases rd <;> cases f
  | in_ => exact op_inAll hu pins s σ H x y v u Q I rx ry (inD_ok sr false rd re f q)
  | notin =>
    have f' : (inD S d e).map (!·) = some k := f
    cases e1 : inD S d e with
    | none => rw [e1] at f'; cases f'
    | some k0 =>
      rw [e1] at f'
      cases f'
      exact op_notInAll hu pins s σ H x y v u Q I rx ry (inD_ok sr true rd re e1 q)
end
end DL
/-! DL5: expressions by data. -/
namespace DL
open PySem PySem.Spec L2
open PyProof.Rows hiding St
section
variable {X : Cx} {W : WX} {b b' : Bt} {ρ : Rho} {S S' : Store} {σ : L2.St} {H H' : Hp}

/-! ### names, constants -/
theorem r_var {i : Nat} {x : Str} {pos : Pos} (C : EvC) (hN : X.N[i]? = some x) (hv : Vis X.env.scope x) (hd : (x == ("__debug__" : Str)) = false) (hcd : (x == ("__classdict__" : Str)) = false) : PE X (.Name x pos) (tE X W (ev C (.var i))) :=
  (pe_var hN hv hd hcd).imp' fun σ H Q h => by
    obtain ⟨b, ρ, S, a, h⟩ := h
    unfold ev at h
    split at h
    · rename_i d e
      obtain ⟨v, e1, r⟩ := a.env.2 i d e
      exact ⟨v, e1, same_ok a.sr r h⟩
    · exact h.elim
theorem r_con {c : K0} {e : Expr} {v : V} (C : EvC) (h : PE X e (tC v)) (hr : ∀ b H, RD X.K X.mg b H c.d v) : PE X e (tE X W (ev C (.con c))) :=
  h.imp' fun σ H Q h => by
    obtain ⟨b, ρ, S, a, h⟩ := h
    unfold ev at h
    exact same_ok a.sr (hr _ _) h
theorem r_glob {x : Str} {e : Expr} {v : V} (C : EvC) (h : PE X e (tC v)) (hr : ∀ d, C.cn x = some d → ∀ b H, RD X.K X.mg b H d v) : PE X e (tE X W (ev C (.glob x))) :=
  h.imp' fun σ H Q h => by
    obtain ⟨b, ρ, S, a, h⟩ := h
    unfold ev optR at h
    split at h
    · rename_i d q
      exact same_ok a.sr (hr d q _ _) h
    · exact h.elim

/-! ### lists of parts -/
theorem seqDs {Q : VK} {m : M (List D)} {f : List D → Store → Res D} {R : List V → Hp → Prop} {E : XK} (a : At X b ρ S σ H) (h : finD X b H Q E ((m ρ S).bind f))
    (k : ∀ (b' : Bt) (H' : Hp) (vs : List V) (ds : List D) (S' : Store), m ρ S = .ok ds S' → Ext b H b' H' → SR X.K X.mg b' S' H' → RDs X.K X.mg b' H' ds vs → finD X b' H' Q E (f ds S') → R vs H') : finDs X b H R E (m ρ S) := by
  cases q : m ρ S with
  | ok d S1 =>
    rw [q] at h
    exact fun b' H' v x s r => k b' H' v d S1 q x s r (h.mono x)
  | exn x S1 => rw [q] at h; exact h
  | bad => rw [q] at h; exact h
theorem r_nil (C : EvC) : PA X [] (tA X W (evs C .nil)) := pa_nil.imp' fun σ H Q h => by
  obtain ⟨b, ρ, S, a, h⟩ := h
  unfold evs at h
  exact h b H [] .refl a.sr .nil
theorem r_cons {C : EvC} {e : Ex} {r : Exs} {pe : Expr} {pr : List Expr} (h : PE X pe (tE X W (ev C e))) (hr : PA X pr (tA X W (evs C r))) (hs : starEach (pe :: pr) X.env = (false, eval pe X.env) :: starEach pr X.env) : PA X (pe :: pr) (tA X W (evs C (.cons e r))) :=
  (pa_cons h hr hs).imp' fun σ H Q h => by
    obtain ⟨b, ρ, S, a, h⟩ := h
    unfold evs at h
    refine ⟨b, ρ, S, a, ?_⟩
    cases q : ev C e ρ S with
    | bad => rw [q] at h; exact h
    | exn x S1 => rw [q] at h; exact h
    | ok d S1 =>
      rw [q] at h
      simp only [Res.bind_ok] at h
      intro b1 H1 v x1 s1 r1
      refine ⟨b1, ρ, S1, a.mono x1 s1, ?_⟩
      cases q2 : evs C r ρ S1 with
      | bad => rw [q2] at h; exact h
      | exn x S2 =>
        rw [q2] at h
        exact exD0.mono x1 h
      | ok ds S2 =>
        rw [q2] at h
        intro b2 H2 vs x2 s2 r2
        exact h b2 H2 (v :: vs) (x1.trans x2) s2 (.cons (r1.mono x2 s1.sub) r2)
def Exs.len : Exs → Nat
  | .nil => 0
  | .cons _ r => r.len + 1
theorem evs_len (C : EvC) : ∀ (es : Exs) (ρ : Rho) (S : Store) (ds : List D) (S' : Store), evs C es ρ S = .ok ds S' → ds.length = es.len
  | .nil, ρ, S, ds, S', h => by
    unfold evs at h
    cases h
    rfl
  | .cons e r, ρ, S, ds, S', h => by
    unfold evs at h
    cases q : ev C e ρ S with
    | bad => rw [q] at h; cases h
    | exn x S1 => rw [q] at h; cases h
    | ok d S1 =>
      rw [q] at h
      simp only [Res.bind_ok] at h
      cases q2 : evs C r ρ S1 with
      | bad => rw [q2] at h; cases h
      | exn x S2 => rw [q2] at h; cases h
      | ok xs S2 =>
        rw [q2] at h
        cases h
        have ih := evs_len C r ρ S1 xs _ q2
        show xs.length + 1 = r.len + 1
        rw [ih]
theorem r_tup {C : EvC} {es : Exs} {pes : List Expr} {k : Nat} {pos : Pos} (h : PA X pes (tA X W (evs C es))) (hl : es.len ≤ 1000) : PE X (.Tuple pes k pos) (tE X W (ev C (.tup es))) :=
  (pe_tup h).imp' fun σ H Q h => by
    obtain ⟨b, ρ, S, a, h⟩ := h
    unfold ev at h
    refine ⟨b, ρ, S, a, seqDs a h fun b1 H1 vs ds S1 q x1 s1 r1 h1 => ⟨?_, fun p hp => tup_ok s1 r1 hp h1⟩⟩
    rw [← r1.length, evs_len C es ρ S ds S1 q, line24]
    omega
theorem r_lst {C : EvC} {es : Exs} {pes : List Expr} {m : Bool} {pos : Pos} (h : PA X pes (tA X W (evs C es))) (hl : es.len ≤ 1000) : PE X (.List pes pos) (tE X W (ev C (.lst m es))) :=
  (pe_lst h).imp' fun σ H Q h => by
    obtain ⟨b, ρ, S, a, h⟩ := h
    unfold ev at h
    refine ⟨b, ρ, S, a, seqDs a h fun b1 H1 vs ds S1 q x1 s1 r1 h1 => ⟨?_, fun p hp => newL_ok s1 r1 hp (finD_pfin newL_calm h1)⟩⟩
    rw [← r1.length, evs_len C es ρ S ds S1 q, line24]
    omega

/-! ### operators -/
theorem r_bin {C : EvC} {m : Bool} {op : Bop} {a c : Ex} {pa pc : Expr} {o : Operator} {pos : Pos} (ho : OpR X (binaryOp o) (rD2 X (binD m op))) (ha : PE X pa (tE X W (ev C a))) (hc : PE X pc (tE X W (ev C c))) :
    PE X (.BinOp pa o pc pos) (tE X W (ev C (.bin m op a c))) := by
  unfold ev
  exact r_op2 (fun d e S => binD_calm m op d e S) (fun h1 h2 => pe_op ho h1 h2) ha hc
theorem r_neg {C : EvC} {a : Ex} {pa : Expr} {pos : Pos} (ha : PE X pa (tE X W (ev C a))) : PE X (.UnaryOp .USub pa pos) (tE X W (ev C (.neg a))) := by
  unfold ev
  refine r_op1 (f := fun x S1 => match x with
    | .int i => .ok (.int (-i)) S1
    | _ => .bad) (fun d S => by cases d <;> trivial) (fun h => pe_un un_neg h) (fun b S d v H Q sr r f => ?_) ha
  cases r <;> first | exact f.elim | exact ⟨_, rfl, same_ok sr (.int _) f⟩
theorem truth_ok (sr : SR X.K X.mg b S H) {d : D} {v : V} {k : Bool} (r : RD X.K X.mg b H d v) (h : truth S d = some k) : TruV X.K v H k := by
  cases r with
  | non => exact (Option.some.inj h).symm
  | bl => exact (Option.some.inj h).symm
  | int => exact (Option.some.inj h).symm
  | str x =>
    unfold truth at h
    simp only at h
    split at h
    · rename_i hz
      cases h
      refine ⟨by rw [line24]; exact hz, ?_⟩
      cases q : x.length with
      | zero => rfl
      | succ n =>
        show (n + 1 != 0) = (((n + 1 : Nat) : Int) != 0)
        rw [bne, bne]
        have h1 : ((n + 1 : Nat) == 0) = false := by simp
        have h2 : (((n + 1 : Nat) : Int) == 0) = false := by
          rw [beq_eq_false_iff_ne]
          omega
        rw [h1, h2]
    · cases h
  | tup f r =>
    cases h
    exact .inr (.inl ⟨_, f.ok, by cases r <;> rfl⟩)
  | lst f r =>
    cases h
    exact .inl ⟨_, f.ok _, by cases r <;> rfl⟩
  | kl f r =>
    cases h
    exact .inl ⟨_, f.ok, by cases r <;> rfl⟩
  | ref hb =>
    unfold truth at h
    simp only at h
    split at h
    · rename_i xs q
      cases h
      obtain ⟨vs, h1, r⟩ := ref_lst sr q hb
      exact .inl ⟨vs, .inl (.inl h1), by cases r <;> rfl⟩
    · cases h
  | fn _ => cases h
theorem r_not {C : EvC} {a : Ex} {pa : Expr} {pos : Pos} (ha : PE X pa (tE X W (ev C a))) : PE X (.UnaryOp .Not pa pos) (tE X W (ev C (.not a))) := by
  unfold ev
  refine r_op1 (f := fun x S1 => optR ((truth S1 x).map fun k => .bl (!k)) S1) (fun d S => optR_calm) (fun h => pe_notT h) (fun b S d v H Q sr r f => ?_) ha
  cases q : truth S d with
  | none => rw [q] at f; exact f.elim
  | some k =>
    rw [q] at f
    exact ⟨k, truth_ok sr r q, same_ok sr (.bl _) f⟩
theorem rCmp_of {op : Cop} {Q : VK} {d e : D} {x y : V} (sr : SR X.K X.mg b S H) (rd : RD X.K X.mg b H d x) (re : RD X.K X.mg b H e y) (h : pfin X b H Q (optR ((cmpD op d e S).map .bl) S)) : rCmp X op x y H Q := by
  cases q : cmpD op d e S with
  | none => rw [q] at h; exact h.elim
  | some k =>
    rw [q] at h
    exact ⟨b, S, d, e, k, sr, rd, re, q, same_ok sr (.bl _) h⟩
theorem r_cmp {C : EvC} {op : Cop} {a c : Ex} {pa pc : Expr} {pos : Pos} (hu : X.A.units + 65 < cLine) (hm : behindInMarks op.op pc = false) (ha : PE X pa (tE X W (ev C a))) (hc : PE X pc (tE X W (ev C c))) :
    PE X (.Compare pa [op.op] [pc] pos) (tE X W (ev C (.cmp op a c))) := by
  refine (pe_cmpR (op_cmpD hu op) ha hc hm).imp' fun σ H Q h => ?_
  obtain ⟨b, ρ, S, a0, h⟩ := h
  unfold ev at h
  refine ⟨b, ρ, S, a0, seqD a0 h fun b1 H1 v d S1 x1 s1 r1 h1 => ⟨b1, ρ, S1, a0.mono x1 s1, seqD (a0.mono x1 s1) h1 fun b2 H2 u e S2 x2 s2 r2 h2 => ?_⟩⟩
  exact rCmp_of s2 (r1.mono x2 s1.sub) r2 (finD_pfin optR_calm h2)
theorem r_chain {C : EvC} {op op' : Cop} {a c d : Ex} {pa pc pd : Expr} {pos : Pos} (hu : X.A.units + 65 < cLine) (hm : lastMarks [op.op, op'.op] [pc, pd] = false) (ha : PE X pa (tE X W (ev C a))) (hc : PE X pc (tE X W (ev C c))) (hd : PE X pd (tE X W (ev C d))) :
    PE X (.Compare pa [op.op, op'.op] [pc, pd] pos) (tE X W (ev C (.chain op op' a c d))) := by
  refine (pe_chain (op_cmpD hu op) (op_cmpD hu op') ha hc hd hm).imp' fun σ H Q h => ?_
  obtain ⟨b, ρ, S, a0, h⟩ := h
  unfold ev at h
  refine ⟨b, ρ, S, a0, seqD a0 h fun b1 H1 v dd S1 x1 s1 r1 h1 => ⟨b1, ρ, S1, a0.mono x1 s1, seqD (a0.mono x1 s1) h1 fun b2 H2 u e S2 x2 s2 r2 h2 => ?_⟩⟩
  cases q : cmpD op dd e S2 with
  | none => rw [q] at h2; exact h2.elim
  | some k =>
    rw [q] at h2
    refine ⟨b2, S2, dd, e, k, s2, r1.mono x2 s1.sub, r2, q, k, rfl, ?_⟩
    simp only [optR, Res.bind_ok] at h2
    cases k with
    | false =>
      rw [if_neg Bool.false_ne_true] at h2 ⊢
      exact same_ok s2 (.bl _) h2
    | true =>
      rw [if_pos rfl] at h2 ⊢
      refine ⟨b2, ρ, S2, (a0.mono x1 s1).mono x2 s2, seqD ((a0.mono x1 s1).mono x2 s2) h2 fun b3 H3 w f S3 x3 s3 r3 h3 => ?_⟩
      exact rCmp_of s3 (r2.mono x3 s2.sub) r3 (finD_pfin optR_calm h3)
theorem r_and {C : EvC} {a c : Ex} {pa pb : Expr} {rest : List Expr} {pos : Pos} (ha : PE X pa (tE X W (ev C a))) (hc : PE X (.BoolOp .And (pb :: rest) pos) (tE X W (ev C c))) : PE X (.BoolOp .And (pa :: pb :: rest) pos) (tE X W (ev C (.and a c))) := by
  refine (pe_andT ha hc).imp' fun σ H Q h => ?_
  obtain ⟨b, ρ, S, a0, h⟩ := h
  unfold ev at h
  refine ⟨b, ρ, S, a0, seqD a0 h fun b1 H1 v d S1 x1 s1 r1 h1 => ?_⟩
  cases q : truth S1 d with
  | none => rw [q] at h1; exact h1.elim
  | some k =>
    rw [q] at h1
    refine ⟨k, truth_ok s1 r1 q, ?_⟩
    simp only [optR, Res.bind_ok] at h1
    cases k with
    | false =>
      rw [if_neg Bool.false_ne_true] at h1 ⊢
      exact same_ok s1 r1 h1
    | true =>
      rw [if_pos rfl] at h1 ⊢
      exact ⟨b1, ρ, S1, a0.mono x1 s1, h1⟩
theorem r_or {C : EvC} {a c : Ex} {pa pb : Expr} {rest : List Expr} {pos : Pos} (ha : PE X pa (tE X W (ev C a))) (hc : PE X (.BoolOp .Or (pb :: rest) pos) (tE X W (ev C c))) : PE X (.BoolOp .Or (pa :: pb :: rest) pos) (tE X W (ev C (.or a c))) := by
  refine (pe_orT ha hc).imp' fun σ H Q h => ?_
  obtain ⟨b, ρ, S, a0, h⟩ := h
  unfold ev at h
  refine ⟨b, ρ, S, a0, seqD a0 h fun b1 H1 v d S1 x1 s1 r1 h1 => ?_⟩
  cases q : truth S1 d with
  | none => rw [q] at h1; exact h1.elim
  | some k =>
    rw [q] at h1
    refine ⟨k, truth_ok s1 r1 q, ?_⟩
    simp only [optR, Res.bind_ok] at h1
    cases k with
    | true =>
      rw [if_pos rfl] at h1 ⊢
      exact same_ok s1 r1 h1
    | false =>
      rw [if_neg Bool.false_ne_true] at h1 ⊢
      exact ⟨b1, ρ, S1, a0.mono x1 s1, h1⟩
theorem r_ite {C : EvC} {c a d : Ex} {pc pa pd : Expr} {pos : Pos} (hc : PT X pc (tB X W (evT C c))) (ha : PE X pa (tE X W (ev C a))) (hd : PE X pd (tE X W (ev C d))) : PE X (.IfExp pc pa pd pos) (tE X W (ev C (.ite c a d))) := by
  refine (pe_ifExp hc ha hd).imp' fun σ H Q h => ?_
  obtain ⟨b, ρ, S, a0, h⟩ := h
  unfold ev at h
  refine ⟨b, ρ, S, a0, ?_⟩
  cases q : evT C c ρ S with
  | bad => rw [q] at h; exact h
  | exn x S1 => rw [q] at h; exact h
  | ok k S1 =>
    rw [q] at h
    simp only [Res.bind_ok] at h
    intro b1 H1 x1 s1
    cases k with
    | true =>
      rw [if_pos rfl] at h ⊢
      exact ⟨b1, ρ, S1, a0.mono x1 s1, h.mono x1⟩
    | false =>
      rw [if_neg Bool.false_ne_true] at h ⊢
      exact ⟨b1, ρ, S1, a0.mono x1 s1, h.mono x1⟩

/-! ### subscripts -/
theorem atI_map {ds : List D} {vs : List V} {i : Int} {d : D} (r : RDs X.K X.mg b H ds vs) (h : atI ds i = some d) : ∃ v, atI vs i = some v ∧ RD X.K X.mg b H d v := by
  unfold atI at h ⊢
  rw [← r.length]
  cases q : ixN ds.length i with
  | none => rw [q] at h; cases h
  | some j =>
    rw [q] at h
    exact r.get h
theorem r_ix {C : EvC} {a c : Ex} {pa pc : Expr} {pos : Pos} (hs : PlainIx pc) (ha : PE X pa (tE X W (ev C a))) (hc : PE X pc (tE X W (ev C c))) : PE X (.Subscript pa pc pos) (tE X W (ev C (.ix a c))) := by
  refine (pe_ix ix_seq ha hc hs).imp' fun σ H Q h => ?_
  obtain ⟨b, ρ, S, a0, h⟩ := h
  unfold ev at h
  refine ⟨b, ρ, S, a0, seqD a0 h fun b1 H1 v d S1 x1 s1 r1 h1 => ⟨b1, ρ, S1, a0.mono x1 s1, seqD (a0.mono x1 s1) h1 fun b2 H2 u e S2 x2 s2 r2 h2 => ?_⟩⟩
  have r1' := r1.mono x2 s1.sub
  have h3 := finD_pfin optR_calm h2
  cases q : ixD d e S2 with
  | none => rw [q] at h3; exact h3.elim
  | some z =>
    rw [q] at h3
    unfold ixD at q
    split at q
    · rename_i zs i
      cases r1'
      cases r2
      split at q
      · rename_i hz
        cases q2 : atI zs.cps.toList i with
        | none => rw [q2] at q; cases q
        | some c =>
          rw [q2] at q
          cases q
          exact .inr (.inr ⟨zs, i, c, rfl, rfl, by rw [line24]; exact hz, q2, same_ok s2 (.str _) h3⟩)
      · cases q
    · rename_i i _
      cases r2
      split at q
      · rename_i xs q1
        obtain ⟨p, vs, rfl, hsq, r⟩ := seqOf_ok s2 q1 r1'
        obtain ⟨w, hw, rw'⟩ := atI_map r q
        rcases hsq with hl | ht
        · exact .inl ⟨p, vs, i, w, rfl, rfl, hl, hw, same_ok s2 rw' h3⟩
        · exact .inr (.inl ⟨p, vs, i, w, rfl, rfl, ht, hw, same_ok s2 rw' h3⟩)
      · cases q
    · cases q
def tO (X : Cx) (W : WX) (m : M (Option Int)) : TO := fun σ H Q => ∃ b ρ S, At X b ρ S σ H ∧ match m ρ S with
  | .ok i S1 => ∀ b' H', Ext b H b' H' → SR X.K X.mg b' S1 H' → Q i H'
  | .exn x S1 => exD X b H (fun c d H' => W c d σ H') x S1
  | .bad => False
theorem r_none (C : EvC) : PO X none (tO X W (evO C none)) := ⟨fun pins s σ H Q I h => po_none.run pins s σ H Q I (by
  obtain ⟨b, ρ, S, a, h⟩ := h
  unfold evO at h
  exact h b H .refl a.sr)⟩
theorem r_some {C : EvC} {e : Ex} {pe : Expr} (h : PE X pe (tE X W (ev C e))) : PO X (some pe) (tO X W (evO C (some e))) := ⟨fun pins s σ H Q I h1 => (po_some h).run pins s σ H Q I (by
  obtain ⟨b, ρ, S, a, h1⟩ := h1
  unfold evO at h1
  refine ⟨b, ρ, S, a, ?_⟩
  cases q : ev C e ρ S with
  | bad => rw [q] at h1; exact h1
  | exn x S1 => rw [q] at h1; exact h1
  | ok d S1 =>
    rw [q] at h1
    simp only [Res.bind_ok] at h1
    intro b1 H1 v x1 s1 r1
    cases r1 <;> first | exact h1.elim | exact ⟨_, rfl, h1 _ _ x1 s1⟩)⟩
/-- what is cut -/
def rSlAll (K : PySem.W.Frag) : V → Option Int → Option Int → Hp → VK → Prop := fun x lo hi H Q => rSlA K x lo hi H Q ∨ rSlL K x lo hi H Q ∨ rSlS x lo hi H Q
theorem sl_all : SlR X (rSlAll X.K) := sl_tupA.or (sl_list.or sl_str)
theorem cut_whole {α : Type} {xs : List α} {lo hi : Option Int} (h : HT.sIx xs.length 0 lo = 0 ∧ HT.sIx xs.length xs.length hi = xs.length) : cutD xs lo hi = xs := by
  unfold cutD
  rw [h.1, h.2]
  simp
theorem sliceD_calm (m : Bool) (x : D) (lo hi : Option Int) (S : Store) : (sliceD m x lo hi S).calm := by
  unfold sliceD
  split <;> first | trivial | (split <;> first | trivial | exact newL_calm)
theorem sliceD_ok {m : Bool} {d : D} {x : V} {lo hi : Option Int} {Q : VK} (sr : SR X.K X.mg b S H) (r : RD X.K X.mg b H d x) (h : pfin X b H Q (sliceD m d lo hi S)) : rSlAll X.K x lo hi H Q := by
  unfold sliceD at h
  split at h
  · rename_i xs
    cases r with
    | @tup a vs _ f r =>
      refine .inl ⟨a, vs, rfl, f.ok, fun e => ?_, fun _ p hp => ?_⟩
      · have e' : HT.sIx xs.length 0 lo = 0 ∧ HT.sIx xs.length xs.length hi = xs.length := by rw [r.length]; exact e
        rw [cut_whole e'] at h
        exact same_ok sr (.tup f r) h
      · exact tup_ok sr (r.cut lo hi) hp h
  · rename_i z
    cases r
    split at h
    · rename_i hz
      exact .inr (.inr ⟨z, rfl, by rw [line24]; exact hz, same_ok sr (.str _) h⟩)
    · exact h.elim
  · split at h
    · rename_i xs q
      obtain ⟨a, vs, rfl, h1, r1⟩ := lstOf_ok sr q r
      exact .inr (.inl ⟨a, vs, rfl, h1, fun p hp => newL_ok sr (r1.cut lo hi) hp h⟩)
    · exact h.elim
theorem r_slice {C : EvC} {m : Bool} {a : Ex} {lo hi : Option Ex} {pa : Expr} {plo phi : Option Expr} {pos p2 : Pos} (ha : PE X pa (tE X W (ev C a))) (hl : PO X plo (tO X W (evO C lo))) (hh : PO X phi (tO X W (evO C hi))) :
    PE X (.Subscript pa (.Slice plo phi none p2) pos) (tE X W (ev C (.slice m a lo hi))) := by
  refine (pe_slice sl_all ha hl hh).imp' fun σ H Q h => ?_
  obtain ⟨b, ρ, S, a0, h⟩ := h
  unfold ev at h
  refine ⟨b, ρ, S, a0, seqD a0 h fun b1 H1 v d S1 x1 s1 r1 h1 => ⟨b1, ρ, S1, a0.mono x1 s1, ?_⟩⟩
  have a1 := a0.mono x1 s1
  cases q : evO C lo ρ S1 with
  | bad => rw [q] at h1; exact h1
  | exn x S2 => rw [q] at h1; exact h1
  | ok l S2 =>
    rw [q] at h1
    simp only [Res.bind_ok] at h1
    intro b2 H2 x2 s2
    have a2 := a1.mono x2 s2
    refine ⟨b2, ρ, S2, a2, ?_⟩
    cases q2 : evO C hi ρ S2 with
    | bad => rw [q2] at h1; exact h1
    | exn x S3 => rw [q2] at h1; exact exD0.mono x2 h1
    | ok u S3 =>
      rw [q2] at h1
      simp only [Res.bind_ok] at h1
      intro b3 H3 x3 s3
      exact sliceD_ok s3 ((r1.mono x2 s1.sub).mono x3 s2.sub) (finD_pfin (sliceD_calm m d l u S3) ((h1.mono x2).mono x3))
end
end DL
/-! DLe: enumerate over a tuple. -/
namespace DL
open PySem PySem.Spec L2
open PyProof.Rows hiding St
open AutoSeq1 (wpAny_loadPart')

abbrev tupIterO (l : Addr) : Obj := { cls := .type "tuple_iterator", data := .fields #[.ref l, .int 0 0] }
abbrev enumO (it : Addr) : Obj := { cls := .type "enumerate", data := .fields #[.none, .bool false, .ref it, rawInt 0, .none, .none] }
theorem newT (l : Addr) (items : Array Value) (n : Nat) (dct : Option Addr) (sl : Array (Option Value)) :
    Meets (Builtin.«enumerate.__new__» ⟨[.type "enumerate", .ref l], []⟩) (fun _ R s => s.heap.get? l = some { cls := .type "tuple", dict := dct, data := .seq items n, slots := sl } ∧
      R (.ok (.ret (.ref (s.heap.push (tupIterO l)).objs.size))) { s with heap := (s.heap.push (tupIterO l)).push (enumO s.heap.objs.size) }) := by
  refine .of_wp fun prog w A R s h => ?_
  obtain ⟨hp, g, d, tk, os⟩ := s
  obtain ⟨hl, h⟩ := h
  have sube := sub_enumerate
  have tupl : Heap.IsTuple (Shared.heap ⟨hp, g, d, tk, os⟩) l items := ⟨_, hl, rfl, n, rfl⟩
  wp_walk using wpAny_loadPart' hl
  refine wpAny_stack_any fun st => ?_
  refine wpAny_pure ?_
  split
  · rename_i c _ _ _ _ _
    cases (c == Value.type "enumerate") <;> (wp_walk using wpAny_loadPart' hl, wpAny_pyIter_tuple tupl; exact ⟨_, rfl, h⟩)
  · wp_walk using wpAny_loadPart' hl, wpAny_pyIter_tuple tupl
    exact ⟨_, rfl, h⟩
section
variable {prog : Program} {w : World} {A : Around} {E : Value → Shared → Prop} {s : Shared}
theorem call_enumT {l : Addr} {items : Array Value} {Q : Value → Shared → Prop} (hL : s.heap.IsTuple l items)
    (h : ∀ h', IsEnum h' (s.heap.objs.size + 1) s.heap.objs.size 0 .none → h'.IsTupleIter s.heap.objs.size l 0 →
      (∀ b o, s.heap.get? b = some o → h'.get? b = some o) → Q (.ref (s.heap.objs.size + 1)) { s with heap := h' }) :
    wpAny (model prog w) A (call (.type "enumerate") [.ref l]) Q E s := by
  obtain ⟨⟨c, dct, dt, sl⟩, hl, hc, n, hd⟩ := hL
  obtain rfl : c = .type "tuple" := hc
  obtain rfl : dt = .seq items n := hd
  refine callType_new F.called_enumerate (by decide) (F.typeCall_enumerate_1 _) (F.newCall_enumerate_1 _) (fun obj => F.args_object_init_2 obj _) F.entry_enumerate_new (newT l items n dct sl) ⟨hl, ?_⟩
  have hz : (s.heap.push (tupIterO l)).objs.size = s.heap.objs.size + 1 := Heap.size_push ..
  show _ ∧ _
  rw [hz]
  have he : IsEnum ((s.heap.push (tupIterO l)).push (enumO s.heap.objs.size)) (s.heap.objs.size + 1) s.heap.objs.size 0 .none := by
    have q := Heap.get?_push_size (s.heap.push (tupIterO l)) (o := enumO s.heap.objs.size) rfl
    rw [hz] at q
    exact q
  exact ⟨⟨_, he, rfl⟩, h _ he ⟨_, Heap.get?_push_of_some _ (Heap.get?_push_size _ rfl), rfl, rfl⟩ fun b o x => Heap.get?_push_of_some _ (Heap.get?_push_of_some _ x)⟩
end
/-- the tuple at a, its items in new pairs with their places -/
def IteT (K : PySem.W.Frag) (a : Addr) : L2.It where
  go := fun i H => ∃ (xs : List V) (x : V), SqT K H a xs ∧ xs[i]? = some x
  yld := fun i H v H' => ∃ T x, v = .ref T ∧ H T = none ∧ H' = upd H T (.tup [.int (i : Nat), x]) ∧ ∀ xs, SqT K H a xs → xs[i]? = some x
  stop := fun i H => ∃ xs : List V, SqT K H a xs ∧ xs.length ≤ i
theorem turn_enumT {P : Program} {w : World} {K : PySem.W.Frag} {elts : List Expr} {kk : Nat} {tpos : Pos} {a e it : Addr} (hei : e ≠ it) (hae : e ≠ a) (hai : a ≠ it) :
    Turn P w K (.Tuple elts kk tpos) (IteT K a) [e, it] e (fun i h => (∃ old, IsEnum h e it ((i : Nat) : Int) old) ∧ h.IsTupleIter it a i) where
  mem := List.mem_cons_self
  obj := fun i h st b hb => by
    obtain ⟨⟨old, he⟩, ⟨o, ho, hc, hd⟩⟩ := st
    rcases List.mem_cons.mp hb with z | z
    · subst z
      exact ⟨_, he, fun v q => nomatch q⟩
    · rw [List.mem_singleton.mp z]
      exact ⟨o, ho, fun v q => by rw [hd] at q; cases q⟩
  keep := fun i h h' st k => ⟨let ⟨old, he⟩ := st.1; ⟨old, k e (by simp) _ he⟩, st.2.at fun o q => k it (by simp) o q⟩
  item := by
    intro X hP hw hK hc i pins s σ H E I hf st hg
    subst hP hw hK
    obtain ⟨⟨old, he⟩, hit⟩ := st
    obtain ⟨xs, x, hq, hx⟩ := hg
    obtain ⟨its, rv, p, hz⟩ := I.tuple hq
    obtain ⟨u, hu, ru⟩ := rv.get hx
    have hel : e < s.heap.objs.size := Heap.lt_size he
    have hil : it < s.heap.objs.size := by obtain ⟨_, q, _⟩ := hit; exact Heap.lt_size q
    have hil2 : i < its.toArray.size := by
      obtain ⟨q, _⟩ := List.getElem?_eq_some_iff.mp hu
      simpa using q
    have D := Draws.tuple (prog := X.prog) (w := X.w) (A := X.A.in1) (I.ok.hd hc) it a hai its.toArray
    refine wpAny_pyNext_enum_itemD D he ⟨hit, p⟩ hil2 hei (by simp [hei, hae]) fun x' h' tk hP ho hst hT hsz hk => ?_
    have ex : x' = u := by
      have q : its.toArray[i]? = some x' := hP
      have q2 : its[i]? = some x' := by simpa using q
      rw [hu] at q2
      exact (Option.some.inj q2).symm
    subst ex
    refine ⟨_, rfl, wpAny_letOwnedTupleGo_enum (s := { s with heap := h', toks := tk + 1 }) ho fun h'' he' sb => ?_⟩
    have hT2 : h''.get? s.heap.objs.size = some { cls := .type "tuple", data := .seq #[.int i tk, x'] } := (sb.2 _ (Nat.ne_of_gt hel)).trans hT
    have new : ObjOk X.prog X.w (upd H s.heap.objs.size (.tup [.int (i : Nat), x])) h'' s.heap.objs.size (.tup [.int (i : Nat), x]) :=
      ⟨by show 2 ≤ sizeLine; decide, [.int i tk, x'], .cons ⟨_, rfl⟩ (.cons ru .nil), ⟨_, hT2, rfl, _, rfl⟩⟩
    have I1 : Inv X pins σ (upd H s.heap.objs.size (.tup [.int (i : Nat), x])) { s with heap := h'', toks := tk + 1 } := by
      refine I.turnedNew (ch := [e, it]) (fun b ob hb q => ?_) hf (Nat.le_refl _) new
      have b1 : b ≠ e := fun z => hb (by simp [z])
      have b2 : b ≠ it := fun z => hb (by simp [z])
      exact (sb.2 b b1).trans (hk b ob b1 b2 q)
    refine ⟨.ref s.heap.objs.size, _, I1, rfl, ⟨_, x, rfl, I.hok.fresh (Nat.le_refl _), rfl, fun ys hy => by rw [I.tuple_inj hy hq]; exact hx⟩, ⟨⟨x', ?_⟩, hst.1.at fun o q => (sb.2 it (Ne.symm hei)).trans q⟩, fun b hb => ?_⟩
    · have e1 : ((i + 1 : Nat) : Int) = (i : Int) + 1 := by omega
      rw [e1]
      exact he'
    · have hb' : b < s.heap.objs.size := by
        rcases List.mem_cons.mp hb with z | z
        · rw [z]; exact hel
        · rw [List.mem_singleton.mp z]; exact hil
      rw [upd_ne (Nat.ne_of_lt hb')]
      exact (hf b hb).1
  done := by
    intro X hP hw hK hc i pins s σ H E I hf st hg
    subst hP hw hK
    obtain ⟨⟨old, he⟩, hit⟩ := st
    obtain ⟨xs, hq, hx⟩ := hg
    obtain ⟨its, rv, p, hz⟩ := I.tuple hq
    obtain ⟨f0, f1, f2, f3, f4, f5⟩ := hf it (by simp)
    have hl := rv.length
    have hn : its.toArray[i]? = none := by
      rw [List.getElem?_toArray, List.getElem?_eq_none_iff]
      omega
    have hT : s.TypeIs (.ref e) "enumerate" := ⟨_, he, rfl⟩
    unfold pyNext
    refine wpAny_bind (wpAny_attempt ?_)
    refine wpAny_callSpecial?_slot (name := Str.ofString "__next__") hT F.slot_enumerate_next ?_
    refine wpAny_call_entry F.slot_enumerate_next hT F.entry_enumerate_next ?_ (F.args_enumerate_next_1 _)
    show wpAny _ _ (field (.ref e) 2 >>= _) _ _ _
    refine wpAny_bind (wpAny_field he rfl (x := .ref it) rfl ?_)
    refine wpAny_bind (wpAny_nextOf_tuple_end (I.ok.hd hc) hit p hn fun h' x he' hx' => ?_)
    obtain ⟨o, ho, hc2⟩ := hx'
    refine wpAny_bind (wpAny_isInstance (T := "StopIteration") (b := true) ⟨o, ho, hc2⟩ isSubtype_stop ?_)
    exact wpAny_pure ⟨rfl, I.turned (t' := s.toks) (fun b o hb q => he' b o hb q) f0 f1 f3 f4 f5⟩
  self := fun A i s Q E st h => let ⟨⟨_, he⟩, _⟩ := st; wpAny_pyIter_enum he h
def iEnumA (K : PySem.W.Frag) (ta : TA) : TI := fun σ H R => ta σ H fun vs H1 => ∃ a xs, vs = [.ref a] ∧ ((SqL K H1 a xs ∧ R (Ite K a) H1) ∨ (SqT K H1 a xs ∧ R (IteT K a) H1))
theorem pi_enumA {X : Cx} {e : Expr} {ta : TA} {p pos tpos : Pos} {elts : List Expr} {kk : Nat} (hg : Gl X "enumerate") (hm : X.mg "enumerate" = none) (ha : PA X [e] ta) (hs : starEach [e] X.env = [(false, eval e X.env)]) :
    PI X (.Tuple elts kk tpos) (.Call (.Name "enumerate" p) [e] [] pos) (iEnumA X.K ta) := by
  refine ⟨fun pins s σ H R I h => Call_ (ld_blt I hg hm boot_enumerate (PyProof.Rows.callWith_type1 (thn (ha.run pos pins s σ H _ I h) fun us s1 q1 => ?_) hs rfl))⟩
  obtain ⟨vs, H1, I1, r1, a, xs, ex, q⟩ := q1
  subst ex
  cases r1 with
  | cons r rr =>
    cases rr
    cases r
    have two : ∀ b ∈ [s1.heap.objs.size + 1, s1.heap.objs.size], FpOk X pins H1 b := fun b hb => by
      have hle : s1.heap.objs.size ≤ b := by
        rcases List.mem_cons.mp hb with z | z
        · omega
        · rw [List.mem_singleton.mp z]
          exact Nat.le_refl _
      exact I1.fpOk hle (I1.hok.fresh hle)
    rcases q with ⟨hq, q⟩ | ⟨hq, q⟩
    · obtain ⟨its, rv, p', hz⟩ := I1.list hq
      refine call_enumerate_list p'.isList fun h' he hit hsz hk => wpAny_pyIter_enum he ?_
      exact ⟨s1.heap.objs.size + 1, [s1.heap.objs.size + 1, s1.heap.objs.size], _, _, H1, rfl, I1.kept (t' := s1.toks) hk, turn_enum a (s1.heap.objs.size + 1) s1.heap.objs.size, ⟨⟨.none, he⟩, hit, Nat.succ_ne_self _⟩, two, q⟩
    · obtain ⟨its, rv, p', hz⟩ := I1.tuple hq
      have la : a < s1.heap.objs.size := p'.lt
      refine call_enumT (show s1.heap.IsTuple a its.toArray from p') fun h' he hit hk => wpAny_pyIter_enum he ?_
      exact ⟨s1.heap.objs.size + 1, [s1.heap.objs.size + 1, s1.heap.objs.size], _, _, H1, rfl, I1.kept (t' := s1.toks) hk,
        turn_enumT (a := a) (e := s1.heap.objs.size + 1) (it := s1.heap.objs.size) (Nat.succ_ne_self _) (Nat.ne_of_gt (Nat.lt_succ_of_lt la)) (Nat.ne_of_lt la), ⟨⟨.none, he⟩, hit⟩, two, q⟩
end DL
/-! DLx: xs.extend(t), t a tuple. -/
namespace DL
open PySem PySem.Spec L2
open PyProof.Rows hiding St
theorem ext_tupG (l b : Addr) (its its2 : Array Value) (n n2 : Nat) (dd : Option Addr) (sl : Array (Option Value)) (k0 : ¬(!its.isEmpty && Builtin.List.listTooLong (its.size + its2.size)) = true) (k1 : its.size ≤ sizeLine) (k2 : its.size + its2.size ≤ sizeLine + 1) :
    Meets (Builtin.«list.extend» ⟨[.ref l, .ref b], []⟩) (fun _ R s => s.heap.get? l = some { cls := .type "list", data := .seq its n } ∧ s.heap.get? b = some { cls := .type "tuple", dict := dd, data := .seq its2 n2, slots := sl } ∧
      R (.ok (.ret Value.none)) { s with heap := s.heap.update l (Obj.mapSeq fun x => x ++ its2), toks := s.toks }) :=
  .of_wp fun prog w A R s h => by
    obtain ⟨hp, g, d, tk, os⟩ := s; obtain ⟨e1, e2, h⟩ := h; have z1 := AutoSeq1.idx_int; have z2 := AutoSeq1.sub_tuple_tuple; have z3 := AutoSeq1.sub_list_list; have z4 := AutoSeq1.sub_tuple_list; have z5 := AutoSeq1.sub_list_tuple
    have k3 : (its ++ its2).size ≤ sizeLine + 1 := by rw [Array.size_append]; exact k2
    wp_walk using (wpAny_updateSeq e1 rfl (hz := k1) (_hz' := k3)), AutoSeq1.wpAny_loadPart' e1, AutoSeq1.wpAny_loadPart' e2
    exact ⟨_, rfl, h⟩
def rExtT (K : PySem.W.Frag) : V → List V → Hp → VK → Prop := fun x vs H Q => ∃ l b xs zs, x = .ref l ∧ vs = [.ref b] ∧ H l = some (.lst xs) ∧ SqT K H b zs ∧ xs.length + zs.length ≤ sizeLine ∧ Q .non (upd H l (.lst (xs ++ zs)))
def rExtA (K : PySem.W.Frag) : V → List V → Hp → VK → Prop := fun x vs H Q => rExtend x vs H Q ∨ rExtT K x vs H Q
section
variable {X : Cx}
theorem mt_extT : MtR X "list.extend" (rExtT X.K) := by
  intro pins s σ H x vs v us Q I rx rv h
  obtain ⟨l, b, xs, zs, rfl, rfl, h1, h2, hz, q⟩ := h
  cases rx
  obtain ⟨u, rfl, ru⟩ := rv.one
  cases ru
  obtain ⟨z, its, n, r, hl, e⟩ := I.lstM h1
  obtain ⟨its2, r2, ⟨o, e2, c2, n2, d2⟩, z2⟩ := I.tuple h2
  obtain ⟨oc, od, odt, osl⟩ := o
  simp only at c2 d2
  subst c2 d2
  have hl2 := r2.length
  have sz : its.toArray.size + its2.toArray.size ≤ sizeLine := by rw [List.size_toArray, List.size_toArray]; omega
  have lg : ¬ (!its.toArray.isEmpty && Builtin.List.listTooLong (its.toArray.size + its2.toArray.size)) = true := by rw [notLongL sz, Bool.and_false]; exact Bool.false_ne_true
  refine call_meets F.slot_list_extend ⟨_, e, rfl⟩ F.entry_list_extend (F.args_list_extend_2 _ _) (ext_tupG l b its.toArray its2.toArray n n2 od osl lg (by rw [List.size_toArray]; omega) (by omega)) ⟨e, e2, ?_⟩
  refine ⟨.non, _, I.lset (its' := its ++ its2) h1 e (by simp) (r.append r2) ?_, rfl, q⟩
  rw [List.length_append]; omega
theorem mt_extA : MtR X "list.extend" (rExtA X.K) := fun pins s σ H x vs v us Q I rx rv h => h.elim (mt_extend pins s σ H x vs v us Q I rx rv) (mt_extT pins s σ H x vs v us Q I rx rv)
end
end DL
/-! DL6: calls of built-ins, tests, what is walked. -/
namespace DL
open PySem PySem.Spec L2
open PyProof.Rows hiding St
section
variable {X : Cx} {W : WX} {b b' : Bt} {ρ : Rho} {S S' : Store} {σ : L2.St} {H H' : Hp}

/-! ### built-ins by one argument -/
theorem biD_calm (m : Bool) (bi : Bi) (x : D) (S : Store) : (biD m bi x S).calm := by
  unfold biD
  cases bi <;> simp only <;> first
    | trivial
    | (split <;> first | trivial | exact newL_calm | (split <;> first | trivial | exact newL_calm))
/-- what a built-in of one argument asks -/
def BiOk (X : Cx) (m : Bool) (bi : Bi) (r : List V → Hp → VK → Prop) : Prop := ∀ b S d v H Q, SR X.K X.mg b S H → RD X.K X.mg b H d v → pfin X b H Q (biD m bi d S) → r [v] H Q
theorem r_biF {C : EvC} {m : Bool} {bi : Bi} {e : Ex} {pe : Expr} {x : Str} {id : String} {p pos : Pos} {r : List V → Hp → VK → Prop} (hc : CallR X (.builtin id) r) (ok : BiOk X m bi r) (hg : Gl X x) (hm : X.mg x = none) (hv : bootBuiltins x = some (.builtin id))
    (hn : x ≠ "__name__") (hdb : (x == ("__debug__" : Str)) = false) (hs : starEach [pe] X.env = (false, eval pe X.env) :: starEach [] X.env) (h : PE X pe (tE X W (ev C e))) : PE X (.Call (.Name x p) [pe] [] pos) (tE X W (ev C (.bcall m bi e))) := by
  unfold ev
  exact r_op1 (r := fun v H Q => r [v] H Q) (biD_calm m bi) (fun ha => pe_callB hc hg hm hv (pa_cons ha pa_nil hs) hn hdb hs) ok h
theorem r_biT {C : EvC} {m : Bool} {bi : Bi} {e : Ex} {pe : Expr} {x : Str} {id : String} {p pos : Pos} {r : List V → Hp → VK → Prop} (hc : CallR X (.type id) r) (ok : BiOk X m bi r) (hg : Gl X x) (hm : X.mg x = none) (hv : bootBuiltins x = some (.type id))
    (hn : x ≠ "__name__") (hdb : (x == ("__debug__" : Str)) = false) (hs : starEach [pe] X.env = (false, eval pe X.env) :: starEach [] X.env) (h : PE X pe (tE X W (ev C e))) : PE X (.Call (.Name x p) [pe] [] pos) (tE X W (ev C (.bcall m bi e))) := by
  unfold ev
  exact r_op1 (r := fun v H Q => r [v] H Q) (biD_calm m bi) (fun ha => pe_callTy hc hg hm hv (pa_cons ha pa_nil hs) hn hdb hs) ok h
theorem bi_len (m : Bool) : BiOk X m .len (fun xs H Q => ∃ x n, xs = [x] ∧ LenV X.K x H n ∧ Q (.int n) H) := by
  intro b S d v H Q sr r f
  unfold biD at f
  simp only at f
  split at f
  · rename_i z
    cases r
    split at f
    · rename_i hz
      exact ⟨_, _, rfl, ⟨by rw [line24]; exact hz, rfl⟩, same_ok sr (.int _) f⟩
    · exact f.elim
  · split at f
    · rename_i xs q
      obtain ⟨a, vs, rfl, hs, r1⟩ := seqOf_ok sr q r
      refine ⟨_, vs.length, rfl, ?_, by rw [← r1.length]; exact same_ok sr (.int _) f⟩
      rcases hs with h | h
      · exact .inl ⟨vs, h, rfl⟩
      · exact .inr ⟨vs, h, rfl⟩
    · exact f.elim
theorem bi_tuple (m : Bool) : BiOk X m .tuple (fun xs H Q => ∃ p ys, xs = [.ref p] ∧ ((SqL X.K H p ys ∧ ∀ l, H l = none → Q (.ref l) (upd H l (.tup ys))) ∨ (SqT X.K H p ys ∧ Q (.ref p) H))) := by
  intro b S d v H Q sr r f
  unfold biD at f
  simp only at f
  cases r with
  | tup g r => exact ⟨_, _, rfl, .inr ⟨g.ok, same_ok sr (.tup g r) f⟩⟩
  | lst g r => exact ⟨_, _, rfl, .inl ⟨g.ok _, fun l hl => tup_ok sr r hl f⟩⟩
  | kl g r => exact ⟨_, _, rfl, .inl ⟨g.ok, fun l hl => tup_ok sr r hl f⟩⟩
  | ref hb =>
    unfold seqOf at f
    simp only at f
    split at f
    · rename_i xs q
      split at q
      · rename_i ys q2
        cases q
        obtain ⟨vs, h1, r⟩ := ref_lst sr q2 hb
        exact ⟨_, vs, rfl, .inl ⟨.inl (.inl h1), fun l hl => tup_ok sr r hl f⟩⟩
      · cases q
    · exact f.elim
  | _ => exact f.elim
theorem bi_list (m : Bool) : BiOk X m .list (fun xs H Q => ∃ p ys, xs = [.ref p] ∧ (SqL X.K H p ys ∨ SqT X.K H p ys) ∧ ∀ l, H l = none → Q (.ref l) (upd H l (.lst ys))) := by
  intro b S d v H Q sr r f
  unfold biD at f
  simp only at f
  split at f
  · rename_i xs q
    obtain ⟨a, vs, rfl, hs, r1⟩ := seqOf_ok sr q r
    exact ⟨a, vs, rfl, hs, fun l hl => newL_ok sr r1 hl f⟩
  · exact f.elim
theorem bi_int (m : Bool) : BiOk X m .int (fun xs H Q => (∃ i, xs = [.int i] ∧ Q (.int i) H) ∨ ∃ k, xs = [.bl k] ∧ Q (.int (if k then 1 else 0)) H) := by
  intro b S d v H Q sr r f
  cases r <;> first
    | exact f.elim
    | exact .inl ⟨_, rfl, same_ok sr (.int _) f⟩
    | exact .inr ⟨_, rfl, same_ok sr (.int _) f⟩
theorem bi_abs (m : Bool) : BiOk X m .abs (fun xs H Q => ∃ i, xs = [.int i] ∧ Q (.int (if i < 0 then -i else i)) H) := by
  intro b S d v H Q sr r f
  cases r <;> first
    | exact f.elim
    | exact ⟨_, rfl, same_ok sr (.int _) f⟩
theorem bls_V : ∀ {ds : List D} {bs : List Bool} {vs : List V}, blsOf ds = some bs → RDs X.K X.mg b H ds vs → vs = bs.map V.bl
  | [], _, _, h, .nil => by cases h; rfl
  | d :: ds, bs, _, h, .cons r rs => by
    cases d with
    | bl k =>
      unfold blsOf at h
      cases q : blsOf ds with
      | none => rw [q] at h; cases h
      | some cs =>
        rw [q] at h
        cases h
        cases r
        rw [bls_V q rs]
        rfl
    | _ => cases h
theorem ints_V : ∀ {ds : List D} {bs : List Int} {vs : List V}, intsOf ds = some bs → RDs X.K X.mg b H ds vs → vs = bs.map V.int
  | [], _, _, h, .nil => by cases h; rfl
  | d :: ds, bs, _, h, .cons r rs => by
    cases d with
    | int k =>
      unfold intsOf at h
      cases q : intsOf ds with
      | none => rw [q] at h; cases h
      | some cs =>
        rw [q] at h
        cases h
        cases r
        rw [ints_V q rs]
        rfl
    | _ => cases h
theorem lst_bls {d : D} {v : V} {bs : List Bool} (sr : SR X.K X.mg b S H) (r : RD X.K X.mg b H d v) (h : (lstOf S d).bind blsOf = some bs) : ∃ a, v = .ref a ∧ SqL X.K H a (bs.map V.bl) := by
  cases q : lstOf S d with
  | none => rw [q] at h; cases h
  | some xs =>
    rw [q] at h
    obtain ⟨a, vs, rfl, h1, r1⟩ := lstOf_ok sr q r
    rw [bls_V h r1] at h1
    exact ⟨a, rfl, h1⟩
theorem lst_ints {d : D} {v : V} {bs : List Int} (sr : SR X.K X.mg b S H) (r : RD X.K X.mg b H d v) (h : (lstOf S d).bind intsOf = some bs) : ∃ a, v = .ref a ∧ SqL X.K H a (bs.map V.int) := by
  cases q : lstOf S d with
  | none => rw [q] at h; cases h
  | some xs =>
    rw [q] at h
    obtain ⟨a, vs, rfl, h1, r1⟩ := lstOf_ok sr q r
    rw [ints_V h r1] at h1
    exact ⟨a, rfl, h1⟩
theorem bi_all (m : Bool) : BiOk X m .all (rAll X.K) := by
  intro b S d v H Q sr r f
  unfold biD at f
  simp only at f
  split at f
  · rename_i bs q
    obtain ⟨a, rfl, h1⟩ := lst_bls sr r q
    exact ⟨a, bs, rfl, h1, same_ok sr (.bl _) f⟩
  · exact f.elim
theorem bi_any (m : Bool) : BiOk X m .any (rAny X.K) := by
  intro b S d v H Q sr r f
  unfold biD at f
  simp only at f
  split at f
  · rename_i bs q
    obtain ⟨a, rfl, h1⟩ := lst_bls sr r q
    exact ⟨a, bs, rfl, h1, same_ok sr (.bl _) f⟩
  · exact f.elim
theorem bi_sum (m : Bool) : BiOk X m .sum (rSum X.K) := by
  intro b S d v H Q sr r f
  unfold biD at f
  simp only at f
  split at f
  · rename_i bs q
    obtain ⟨a, rfl, h1⟩ := lst_ints sr r q
    exact ⟨a, bs, rfl, h1, same_ok sr (.int _) f⟩
  · exact f.elim
theorem maxI_spec : ∀ (r : List Int) (x : Int), (r.foldl (fun a b => if b > a then b else a) x) ∈ x :: r ∧ ∀ y ∈ x :: r, y ≤ r.foldl (fun a b => if b > a then b else a) x
  | [], x => ⟨List.mem_cons_self, fun y hy => by rw [List.mem_singleton.mp hy]; exact Int.le_refl _⟩
  | z :: r, x => by
    obtain ⟨h1, h2⟩ := maxI_spec r (if z > x then z else x)
    have e : (z :: r).foldl (fun a b => if b > a then b else a) x = r.foldl (fun a b => if b > a then b else a) (if z > x then z else x) := rfl
    rw [e]
    refine ⟨?_, fun y hy => ?_⟩
    · rcases List.mem_cons.mp h1 with q | q
      · rw [q]
        by_cases c : z > x
        · rw [if_pos c]; exact List.mem_cons_of_mem _ List.mem_cons_self
        · rw [if_neg c]; exact List.mem_cons_self
      · exact List.mem_cons_of_mem _ (List.mem_cons_of_mem _ q)
    · have h3 := h2 _ List.mem_cons_self
      rcases List.mem_cons.mp hy with q | q
      · subst q
        by_cases c : z > y
        · rw [if_pos c] at h3 ⊢; omega
        · rw [if_neg c] at h3 ⊢; omega
      · rcases List.mem_cons.mp q with q | q
        · subst q
          by_cases c : y > x
          · rw [if_pos c] at h3 ⊢; omega
          · rw [if_neg c] at h3 ⊢; omega
        · exact h2 y (List.mem_cons_of_mem _ q)
theorem bi_max (m : Bool) : BiOk X m .max (rMax X.K) := by
  intro b S d v H Q sr r f
  unfold biD at f
  simp only at f
  split at f
  · rename_i n ns q
    obtain ⟨a, rfl, h1⟩ := lst_ints sr r q
    refine ⟨a, n :: ns, rfl, h1, Nat.succ_pos _, fun k hk hle => ?_⟩
    obtain ⟨m1, m2⟩ := maxI_spec ns n
    have e : k = maxI (n :: ns) := Int.le_antisymm (m2 k hk) (hle _ m1)
    rw [e]
    exact same_ok sr (.int _) f
  · exact f.elim

/-! ### isinstance -/
theorem TyX_of {d : D} {v : V} {t : Ty} (sr : SR X.K X.mg b S H) (r : RD X.K X.mg b H d v) (h : tyD S d = some t) : TyX X.K H v (.type t.nm) := by
  cases r with
  | non => cases h; exact .base .non
  | bl k => cases h; exact .base (.bl k)
  | int i => cases h; exact .base (.int i)
  | str x => cases h; exact .base (.str x)
  | tup f r =>
    cases h
    rcases f with ⟨f | ⟨o, f⟩, _⟩ | ⟨o, its, n, h1, h2, _⟩
    · exact .base (.tup f)
    · exact .fTuple f
    · exact .kTuple h1 h2
  | lst f r => cases h; exact .base (.lst f.1)
  | kl f r =>
    cases h
    rcases f with ⟨f | ⟨o, f⟩, _⟩ | ⟨o, its, n, h1, h2, _⟩
    · exact .base (.lst f)
    · exact .base (.frz f)
    · exact .kList h1 h2
  | ref hb =>
    unfold tyD at h
    simp only at h
    split at h
    · rename_i xs q
      cases h
      obtain ⟨vs, h1, r⟩ := ref_lst sr q hb
      exact .base (.lst h1)
    · rename_i xs q
      cases h
      obtain ⟨kvs, h1, r⟩ := sr.obj _ _ _ q hb
      exact .base (.dK h1)
    · cases h
  | fn _ => cases h
def tyNames : List String := ["NoneType", "bool", "int", "str", "tuple", "list", "dict"]
def clsNames : List String := ["bool", "int", "str", "tuple", "list", "dict"]
theorem kit_all : (tyNames.all fun t => clsNames.all fun c => kitB t c == some (t == c || (t == "bool" && c == "int"))) = true := by decide +kernel
theorem ty_mem (t : Ty) : t.nm ∈ tyNames := by cases t <;> decide
theorem ty_sub (t c : Ty) : t.sub c = (t.nm == c.nm || (t.nm == "bool" && c.nm == "int")) := by cases t <;> cases c <;> decide
theorem kit_at {t c : String} (h : t ∈ tyNames) (h2 : c ∈ clsNames) : kitB t c = some (t == c || (t == "bool" && c == "int")) := by
  have q := List.all_eq_true.mp (List.all_eq_true.mp kit_all t h) c h2
  exact eq_of_beq q
theorem isiD_ok {d : D} {ts : List Ty} {k : Bool} (h : isiD S d ts = some k) : ∃ t, tyD S d = some t ∧ k = ts.any fun c => t.nm == c.nm || (t.nm == "bool" && c.nm == "int") := by
  unfold isiD at h
  cases q : tyD S d with
  | none => rw [q] at h; cases h
  | some t =>
    rw [q] at h
    refine ⟨t, rfl, (Option.some.inj h).symm.trans ?_⟩
    show (ts.any fun c => t.sub c) = _
    have e : (fun c => t.sub c) = fun c : Ty => t.nm == c.nm || (t.nm == "bool" && c.nm == "int") := funext fun c => ty_sub t c
    rw [e]
theorem r_isi1 {C : EvC} {a : Ex} {pa : Expr} {x T : Str} {c : Ty} {p pt pos : Pos} (hg : Gl X "isinstance") (hm : X.mg "isinstance" = none) (hgT : Gl X T) (hmT : X.mg T = none) (hvT : bootBuiltins T = some (.type c.nm)) (hc : c.nm ∈ clsNames)
    (hn : T ≠ "__name__") (hdb : (T == ("__debug__" : Str)) = false) (hs : starEach [pa, .Name T pt] X.env = (false, eval pa X.env) :: starEach [.Name T pt] X.env) (ha : PE X pa (tE X W (ev C a))) :
    PE X (.Call (.Name "isinstance" p) [pa, .Name T pt] [] pos) (tE X W (ev C (.isi a [c]))) := by
  unfold ev
  refine r_op1 (f := fun x S1 => optR ((isiD S1 x [c]).map .bl) S1) (r := fun v H Q => rIsi X.K [v, .ty c.nm] H Q) (fun d S => optR_calm)
    (fun h => pe_callB call_isi hg hm boot_isinstance (pa_cons h (pa_cons (pe_bltn (v := .ty c.nm) hgT hmT hvT rfl hn hdb) pa_nil) hs) (by decide) (by decide) hs) (fun b S d v H Q sr r f => ?_) ha
  cases q : isiD S d [c] with
  | none => rw [q] at f; exact f.elim
  | some k =>
    rw [q] at f
    obtain ⟨t, ht, ek⟩ := isiD_ok q
    refine ⟨v, .ty c.nm, .type t.nm, .type c.nm, k, rfl, .ty c.nm, TyX_of sr r ht, kit_ty ?_, same_ok sr (.bl _) f⟩
    rw [kit_at (ty_mem t) hc, ek]
    simp
theorem r_isi2 {C : EvC} {a : Ex} {pa : Expr} {x T T' : Str} {c c' : Ty} {p pt pt' ptt pos : Pos} {k0 : Nat} (hg : Gl X "isinstance") (hm : X.mg "isinstance" = none) (hgT : Gl X T) (hmT : X.mg T = none) (hvT : bootBuiltins T = some (.type c.nm)) (hc : c.nm ∈ clsNames)
    (hgT' : Gl X T') (hmT' : X.mg T' = none) (hvT' : bootBuiltins T' = some (.type c'.nm)) (hc' : c'.nm ∈ clsNames) (hn : T ≠ "__name__") (hdb : (T == ("__debug__" : Str)) = false) (hn' : T' ≠ "__name__") (hdb' : (T' == ("__debug__" : Str)) = false)
    (hs : starEach [pa, .Tuple [.Name T pt, .Name T' pt'] k0 ptt] X.env = (false, eval pa X.env) :: starEach [.Tuple [.Name T pt, .Name T' pt'] k0 ptt] X.env) (ha : PE X pa (tE X W (ev C a))) :
    PE X (.Call (.Name "isinstance" p) [pa, .Tuple [.Name T pt, .Name T' pt'] k0 ptt] [] pos) (tE X W (ev C (.isi a [c, c']))) := by
  unfold ev
  refine r_op1 (f := fun x S1 => optR ((isiD S1 x [c, c']).map .bl) S1) (r := fun v H Q => 2 ≤ sizeLine ∧ ∀ p, H p = none → rIsiT X.K [v, .ref p] (upd H p (.tup [.ty c.nm, .ty c'.nm])) Q) (fun d S => optR_calm)
    (fun h => pe_callB call_isiT hg hm boot_isinstance (pa_cons h (pa_cons (pe_tup (pa_cons (pe_bltn (v := .ty c.nm) hgT hmT hvT rfl hn hdb) (pa_cons (pe_bltn (v := .ty c'.nm) hgT' hmT' hvT' rfl hn' hdb') pa_nil))) pa_nil) hs) (by decide) (by decide) hs) (fun b S d v H Q sr r f => ?_) ha
  refine ⟨by rw [line24]; decide, fun tp hp => ?_⟩
  cases q : isiD S d [c, c'] with
  | none => rw [q] at f; exact f.elim
  | some k =>
    rw [q] at f
    obtain ⟨t, ht, ek⟩ := isiD_ok q
    have x1 : Ext b H b (upd H tp (.tup [.ty c.nm, .ty c'.nm])) := ext_new hp
    have s1 := sr.new (o := .tup [.ty c.nm, .ty c'.nm]) hp
    have r1 := r.mono x1 sr.sub
    refine ⟨v, tp, _, .type t.nm, [.type c.nm, .type c'.nm], k, rfl, upd_same, .cons (.ty c.nm) (.cons (.ty c'.nm) .nil), TyX_of s1 r1 ht, ?_, f b _ _ x1 s1 (.bl _)⟩
    have e1 := kit_ty (K := X.K) (kit_at (ty_mem t) hc)
    have e2 := kit_ty (K := X.K) (kit_at (ty_mem t) hc')
    rw [ek]
    refine kitAny_cons e1 (fun h1 => ?_) (fun h1 => by simp only [List.any_cons, h1, Bool.true_or])
    rw [List.any_cons, h1, Bool.false_or]
    refine kitAny_cons e2 (fun h2 => ?_) (fun h2 => by simp only [List.any_cons, h2, Bool.true_or])
    rw [List.any_cons, h2]
    exact kitAny_nil

/-! ### methods of lists -/
theorem isRef_ty {d : D} {v : V} (sr : SR X.K X.mg b S H) (r : RD X.K X.mg b H d v) (h : (ownOf S d).isSome = true) : tyV X.K "list" v H := by
  obtain ⟨xs, q⟩ := Option.isSome_iff_exists.mp h
  obtain ⟨a, vs, rfl, h1, _⟩ := ownOf_ok sr q r
  exact .inl ⟨rfl, vs, .inl (.inl h1)⟩
theorem methD_calm (m : Bool) (o : D) (name : Mt) (as : List D) (S : Store) : (methD m o name as S).calm := by
  unfold methD
  cases name <;> simp only <;> (split <;> first | trivial | (split <;> first | trivial | (split <;> first | trivial | (split <;> first | trivial | (split <;> trivial)))))
/-- what a method of lists asks -/
def MtOk (X : Cx) (name : Mt) (r : V → List V → Hp → VK → Prop) : Prop := ∀ b S d ds v vs H Q, SR X.K X.mg b S H → RD X.K X.mg b H d v → RDs X.K X.mg b H ds vs → pfin X b H Q (methD true d name ds S) → r v vs H Q
theorem mt_appendD : MtOk X .append rAppend := by
  intro b S d ds v vs H Q sr rd rs f
  unfold methD at f
  simp only at f
  split at f
  · rename_i n x
    cases rd with
    | @ref _ a hb =>
    cases rs with
    | @cons _ v1 _ _ r1 r0 =>
      cases r0
      split at f
      · rename_i xs q
        split at f
        · rename_i hz
          obtain ⟨ws, h1, rw1⟩ := ref_lst sr q hb
          refine ⟨a, ws, _, rfl, rfl, h1, by rw [← rw1.length, line24]; exact hz, ?_⟩
          have x1 : Ext b H b (upd H a (.lst (ws ++ [v1]))) := ext_upd sr hb
          exact f b _ _ x1 (sr.upd hb ⟨_, upd_same, (rw1.append (.cons r1 .nil)).mono x1 sr.sub⟩) .non
        · exact f.elim
      · exact f.elim
  · exact f.elim
theorem extOf_ok {d : D} {v : V} {xs : List D} (sr : SR X.K X.mg b S H) (h : extOf S d = some xs) (r : RD X.K X.mg b H d v) : ∃ a vs, v = .ref a ∧ (H a = some (.lst vs) ∨ SqT X.K H a vs) ∧ RDs X.K X.mg b H xs vs := by
  cases r with
  | tup f r => cases h; exact ⟨_, _, rfl, .inr f.ok, r⟩
  | @lst a0 vs0 ds f r =>
    have h' : ownOf S (.lst ds) = some xs := h
    obtain ⟨a, vs, e, h1, r1⟩ := ownOf_ok sr h' (.lst f r)
    exact ⟨a, vs, e, .inl h1, r1⟩
  | @ref n a0 hb =>
    have h' : ownOf S (.ref n) = some xs := h
    obtain ⟨a, vs, e, h1, r1⟩ := ownOf_ok sr h' (.ref hb)
    exact ⟨a, vs, e, .inl h1, r1⟩
  | _ => cases h
theorem mt_extendD : MtOk X .extend (rExtA X.K) := by
  intro b S d ds v vs H Q sr rd rs f
  unfold methD at f
  simp only at f
  split at f
  · rename_i n x
    cases rd with
    | @ref _ a hb =>
    cases rs with
    | cons r1 r0 =>
      cases r0
      split at f
      · rename_i xs ys q q2
        split at f
        · rename_i hz
          obtain ⟨ws, h1, rw1⟩ := ref_lst sr q hb
          obtain ⟨a2, us, rfl, h2, ru⟩ := extOf_ok sr q2 r1
          have x1 : Ext b H b (upd H a (.lst (ws ++ us))) := ext_upd sr hb
          have fin : Q .non (upd H a (.lst (ws ++ us))) := f b _ _ x1 (sr.upd hb ⟨_, upd_same, (rw1.append ru).mono x1 sr.sub⟩) .non
          have z : ws.length + us.length ≤ sizeLine := by rw [← rw1.length, ← ru.length, line24]; exact hz
          rcases h2 with h2 | h2
          · exact .inl ⟨a, a2, ws, us, rfl, rfl, h1, h2, z, fin⟩
          · exact .inr ⟨a, a2, ws, us, rfl, rfl, h1, h2, z, fin⟩
        · exact f.elim
      · exact f.elim
  · exact f.elim
theorem RDs.eraseIdx : ∀ {ds : List D} {vs : List V} (i : Nat), RDs X.K X.mg b H ds vs → RDs X.K X.mg b H (ds.eraseIdx i) (vs.eraseIdx i)
  | _, _, _, .nil => .nil
  | _, _, 0, .cons _ r => r
  | _, _, i + 1, .cons h r => .cons h (RDs.eraseIdx i r)
theorem mt_popD {ds : List D} {b : Bt} {S : Store} {d : D} {v : V} {vs : List V} {H : Hp} {Q : VK} (hn : ds = []) (sr : SR X.K X.mg b S H) (rd : RD X.K X.mg b H d v) (rs : RDs X.K X.mg b H ds vs) (f : pfin X b H Q (methD true d .pop ds S)) : rPop v vs H Q := by
  subst hn
  unfold methD at f
  simp only at f
  cases rs
  split at f
  · rename_i n e
    cases rd with
    | @ref _ a hb =>
    split at f
    · rename_i xs q
      split at f
      · rename_i y q2
        obtain ⟨ws, h1, rw1⟩ := ref_lst sr q hb
        obtain ⟨u, hu, ru⟩ := rw1.get q2
        refine ⟨a, ws, u, rfl, rfl, h1, by rw [← rw1.length]; exact hu, ?_⟩
        have x1 : Ext b H b (upd H a (.lst ws.dropLast)) := ext_upd sr hb
        exact f b _ _ x1 (sr.upd hb ⟨_, upd_same, rw1.dropLast.mono x1 sr.sub⟩) (ru.mono x1 sr.sub)
      · exact f.elim
    · exact f.elim
  · rename_i e; cases e
  · exact f.elim
theorem mt_popAtD {e : D} {b : Bt} {S : Store} {d : D} {v : V} {vs : List V} {H : Hp} {Q : VK} (sr : SR X.K X.mg b S H) (rd : RD X.K X.mg b H d v) (rs : RDs X.K X.mg b H [e] vs) (f : pfin X b H Q (methD true d .pop [e] S)) : rPopAt v vs H Q := by
  unfold methD at f
  simp only at f
  split at f
  · rename_i n q
    cases q
  · rename_i n i q
    cases q
    cases rd with
    | @ref _ a hb =>
    cases rs with
    | cons r1 r0 =>
      cases r0
      cases r1
      split at f
      · rename_i xs q
        split at f
        · rename_i hz
          split at f
          · rename_i j q2
            split at f
            · rename_i y q3
              obtain ⟨ws, h1, rw1⟩ := ref_lst sr q hb
              obtain ⟨u, hu, ru⟩ := rw1.get q3
              refine ⟨a, ws, i, j, u, rfl, rfl, h1, by omega, by omega, ?_, hu, ?_⟩
              · rw [← rw1.length]
                exact (ixN_seq q2).1
              · have x1 : Ext b H b (upd H a (.lst (ws.eraseIdx j))) := ext_upd sr hb
                exact f b _ _ x1 (sr.upd hb ⟨_, upd_same, (RDs.eraseIdx j rw1).mono x1 sr.sub⟩) (ru.mono x1 sr.sub)
            · exact f.elim
          · exact f.elim
        · exact f.elim
      · exact f.elim
  · exact f.elim
theorem r_meth1 {C : EvC} {o e : Ex} {po pe : Expr} {name : Mt} {id : String} {apos cpos : Pos} {r : V → List V → Hp → VK → Prop} (slot : Slot "list" name.nm id) (hty : typeOf (.builtin id) = pure (.type "method_descriptor")) (hm : MtR X id r) (ok : ∀ b S d e v vs H Q, SR X.K X.mg b S H → RD X.K X.mg b H d v → RDs X.K X.mg b H [e] vs → pfin X b H Q (methD true d name [e] S) → r v vs H Q)
    (hbase : attributeBase po name.nm X.env (eval po X.env) = eval po X.env) (hline : (apos.endLine == cpos.line) = true) (hs : starEach [pe] X.env = (false, eval pe X.env) :: starEach [] X.env)
    (ho : PE X po (tE X W (ev C o))) (he : PE X pe (tE X W (ev C e))) : PE X (.Call (.Attribute po name.nm apos) [pe] [] cpos) (tE X W (ev C (.meth o name (.cons e .nil)))) := by
  have hfew : ((backTo cpos (starEach (pe :: []) X.env)).all (fun x => !x.1) && (backToKw cpos (keywordEach [] X.env)).all (fun x => x.1.isSome)
      && decide ((pe :: []).length + ([] : List Keyword).length + (if ([] : List Keyword).isEmpty then 0 else 1) < 30)) = true := by rw [hs]; rfl
  refine (pe_bm PySem.F.plainAttrs_list slot hty hm ho (r_cons he (r_nil C) hs) hbase hfew hline hs).imp' fun σ H Q h => ?_
  obtain ⟨b, ρ, S, a0, h⟩ := h
  unfold ev at h
  refine ⟨b, ρ, S, a0, seqD a0 h fun b1 H1 v d S1 x1 s1 r1 h1 => ?_⟩
  split at h1
  · rename_i hr
    refine ⟨isRef_ty s1 r1 hr, b1, ρ, S1, a0.mono x1 s1, seqDs (a0.mono x1 s1) h1 fun b2 H2 vs ds S2 q x2 s2 r2 h2 => ?_⟩
    have hl := evs_len C _ _ _ _ _ q
    match ds, hl with
    | [e1], _ => exact ok b2 S2 d e1 v vs H2 Q s2 (r1.mono x2 s1.sub) r2 (finD_pfin (methD_calm true d name [e1] S2) h2)
  · exact h1.elim
theorem r_meth0 {C : EvC} {o : Ex} {po : Expr} {name : Mt} {id : String} {apos cpos : Pos} {r : V → List V → Hp → VK → Prop} (slot : Slot "list" name.nm id) (hty : typeOf (.builtin id) = pure (.type "method_descriptor")) (hm : MtR X id r) (ok : ∀ b S d v H Q, SR X.K X.mg b S H → RD X.K X.mg b H d v → pfin X b H Q (methD true d name [] S) → r v [] H Q)
    (hbase : attributeBase po name.nm X.env (eval po X.env) = eval po X.env) (hline : (apos.endLine == cpos.line) = true)
    (ho : PE X po (tE X W (ev C o))) : PE X (.Call (.Attribute po name.nm apos) [] [] cpos) (tE X W (ev C (.meth o name .nil))) := by
  refine (pe_bm0 PySem.F.plainAttrs_list slot hty hm ho hbase hline).imp' fun σ H Q h => ?_
  obtain ⟨b, ρ, S, a0, h⟩ := h
  unfold ev at h
  refine ⟨b, ρ, S, a0, seqD a0 h fun b1 H1 v d S1 x1 s1 r1 h1 => ?_⟩
  split at h1
  · rename_i hr
    unfold evs at h1
    simp only [Res.bind_ok] at h1
    exact ⟨isRef_ty s1 r1 hr, ok b1 S1 d v H1 Q s1 r1 (finD_pfin (methD_calm true d name [] S1) h1)⟩
  · exact h1.elim
end
end DL
/-! DL7: tests, targets, walks, comprehensions. -/
namespace DL
open PySem PySem.Spec L2
open PyProof.Rows hiding St
section
variable {X : Cx} {W : WX} {b b' : Bt} {ρ : Rho} {S S' : Store} {σ : L2.St} {H H' : Hp}

/-! ### tests -/
theorem Res.bind_assoc {α β γ : Type} (r : Res α) (f : α → Store → Res β) (g : β → Store → Res γ) : (r.bind f).bind g = r.bind fun a S => (f a S).bind g := by cases r <;> rfl
def Ex.isVal : Ex → Bool
  | .call _ _ => true
  | .callk _ _ _ _ => true
  | .bcall _ _ _ => true
  | .isi _ _ => true
  | .var _ => true
  | .con _ => true
  | .ix _ _ => true
  | _ => false
theorem optR_map {α β : Type} (o : Option α) (f : α → β) (S : Store) (g : β → Store → Res D) : (optR (o.map f) S).bind g = (optR o S).bind fun a S => g (f a) S := by cases o <;> rfl
theorem evT_val (C : EvC) : ∀ {e : Ex}, e.isVal = true → ∀ ρ S, evT C e ρ S = (ev C e ρ S).bind fun x S2 => optR (truth S2 x) S2
  | .call _ _, _, _, _ => by simp only [evT, ev, Res.bind_assoc]
  | .callk _ _ _ _, _, _, _ => by simp only [evT, ev, Res.bind_assoc]
  | .bcall _ _ _, _, _, _ => by simp only [evT, ev, Res.bind_assoc]
  | .isi a ts, _, ρ, S => by
    simp only [evT, ev, Res.bind_assoc]
    congr 1
    funext x S1
    cases isiD S1 x ts <;> rfl
  | .var i, _, ρ, S => by
    simp only [evT, ev]
    split <;> rfl
  | .con _, _, _, _ => by simp only [evT, ev, Res.bind_ok]
  | .ix _ _, _, _, _ => by simp only [evT, ev, Res.bind_assoc]
theorem t_val {C : EvC} {e : Ex} {pe : Expr} (hv : e.isVal = true) (hp : ∀ whole, isTrue pe X.env whole = (do let v ← whole; standAt pe.pos; holding [v] (truthy v))) (h : PE X pe (tE X W (ev C e))) : PT X pe (tB X W (evT C e)) := by
  refine (pt_truth h hp).imp' fun σ H Q h => ?_
  obtain ⟨b, ρ, S, a0, h⟩ := h
  rw [evT_val C hv] at h
  refine ⟨b, ρ, S, a0, ?_⟩
  cases q : ev C e ρ S with
  | bad => rw [q] at h; exact h
  | exn x S1 => rw [q] at h; exact h
  | ok d S1 =>
    rw [q] at h
    simp only [Res.bind_ok] at h
    intro b1 H1 v x1 s1 r1
    cases q2 : truth S1 d with
    | none => rw [q2] at h; exact h.elim
    | some k =>
      rw [q2] at h
      exact ⟨k, truth_ok s1 r1 q2, h b1 H1 x1 s1⟩
theorem t_not {C : EvC} {a : Ex} {pa : Expr} {pos : Pos} (h : PT X pa (tB X W (evT C a))) : PT X (.UnaryOp .Not pa pos) (tB X W (evT C (.not a))) := by
  refine (pt_not h).imp' fun σ H Q h => ?_
  obtain ⟨b, ρ, S, a0, h⟩ := h
  unfold evT at h
  refine ⟨b, ρ, S, a0, ?_⟩
  cases q : evT C a ρ S with
  | bad => rw [q] at h; exact h
  | exn x S1 => rw [q] at h; exact h
  | ok d S1 =>
    rw [q] at h
    exact h
theorem t_and {C : EvC} {a c : Ex} {pa pb : Expr} {rest : List Expr} {pos : Pos} (ha : PT X pa (tB X W (evT C a))) (hc : PW X (.BoolOp .And (pb :: rest) pos) (tB X W (evT C c))) : PW X (.BoolOp .And (pa :: pb :: rest) pos) (tB X W (evT C (.and a c))) := by
  refine ⟨fun wh pins s σ H Q I h => (pw_and ha hc).run wh pins s σ H Q I ?_⟩
  obtain ⟨b, ρ, S, a0, h⟩ := h
  unfold evT at h
  refine ⟨b, ρ, S, a0, ?_⟩
  cases q : evT C a ρ S with
  | bad => rw [q] at h; exact h
  | exn x S1 => rw [q] at h; exact h
  | ok k S1 =>
    rw [q] at h
    simp only [Res.bind_ok] at h
    intro b1 H1 x1 s1
    cases k with
    | true =>
      rw [if_pos rfl] at h ⊢
      exact ⟨b1, ρ, S1, a0.mono x1 s1, h.mono x1⟩
    | false =>
      rw [if_neg Bool.false_ne_true] at h ⊢
      exact h b1 H1 x1 s1
theorem t_or {C : EvC} {a c : Ex} {pa pb : Expr} {rest : List Expr} {pos : Pos} (ha : PT X pa (tB X W (evT C a))) (hc : PW X (.BoolOp .Or (pb :: rest) pos) (tB X W (evT C c))) : PW X (.BoolOp .Or (pa :: pb :: rest) pos) (tB X W (evT C (.or a c))) := by
  refine ⟨fun wh pins s σ H Q I h => (pw_or ha hc).run wh pins s σ H Q I ?_⟩
  obtain ⟨b, ρ, S, a0, h⟩ := h
  unfold evT at h
  refine ⟨b, ρ, S, a0, ?_⟩
  cases q : evT C a ρ S with
  | bad => rw [q] at h; exact h
  | exn x S1 => rw [q] at h; exact h
  | ok k S1 =>
    rw [q] at h
    simp only [Res.bind_ok] at h
    intro b1 H1 x1 s1
    cases k with
    | false =>
      rw [if_neg Bool.false_ne_true] at h ⊢
      exact ⟨b1, ρ, S1, a0.mono x1 s1, h.mono x1⟩
    | true =>
      rw [if_pos rfl] at h ⊢
      exact h b1 H1 x1 s1
theorem t_cmp {C : EvC} {op : Cop} {a c : Ex} {pa pc : Expr} {pos : Pos} (hu : X.A.units + 65 < cLine) (hm : behindInMarks op.op pc = false) (ha : PE X pa (tE X W (ev C a))) (hc : PE X pc (tE X W (ev C c))) :
    PT X (.Compare pa [op.op] [pc] pos) (tB X W (evT C (.cmp op a c))) := by
  refine (pt_cmpR (op_cmpD hu op) ha hc hm).imp' fun σ H Q h => ?_
  obtain ⟨b, ρ, S, a0, h⟩ := h
  unfold evT at h
  refine ⟨b, ρ, S, a0, ?_⟩
  cases q : ev C a ρ S with
  | bad => rw [q] at h; exact h
  | exn x S1 => rw [q] at h; exact h
  | ok d S1 =>
    rw [q] at h
    simp only [Res.bind_ok] at h
    intro b1 H1 v x1 s1 r1
    refine ⟨b1, ρ, S1, a0.mono x1 s1, ?_⟩
    cases q2 : ev C c ρ S1 with
    | bad => rw [q2] at h; exact h
    | exn x S2 => rw [q2] at h; exact exD0.mono x1 h
    | ok e S2 =>
      rw [q2] at h
      simp only [Res.bind_ok] at h
      intro b2 H2 u x2 s2 r2
      cases q3 : cmpD op d e S2 with
      | none => rw [q3] at h; exact h.elim
      | some k =>
        rw [q3] at h
        exact ⟨b2, S2, d, e, k, s2, r1.mono x2 s1.sub, r2, q3, k, rfl, h b2 H2 (x1.trans x2) s2⟩
theorem t_chain {C : EvC} {op op' : Cop} {a c d : Ex} {pa pc pd : Expr} {pos : Pos} (hu : X.A.units + 65 < cLine) (hm : lastMarks [op.op, op'.op] [pc, pd] = false) (ha : PE X pa (tE X W (ev C a))) (hc : PE X pc (tE X W (ev C c))) (hd : PE X pd (tE X W (ev C d))) :
    PT X (.Compare pa [op.op, op'.op] [pc, pd] pos) (tB X W (evT C (.chain op op' a c d))) := by
  refine (pt_chain (op_cmpD hu op) (op_cmpD hu op') ha hc hd hm).imp' fun σ H Q h => ?_
  obtain ⟨b, ρ, S, a0, h⟩ := h
  unfold evT at h
  refine ⟨b, ρ, S, a0, ?_⟩
  cases q : ev C a ρ S with
  | bad => rw [q] at h; exact h
  | exn x S1 => rw [q] at h; exact h
  | ok dd S1 =>
    rw [q] at h
    simp only [Res.bind_ok] at h
    intro b1 H1 v x1 s1 r1
    refine ⟨b1, ρ, S1, a0.mono x1 s1, ?_⟩
    cases q2 : ev C c ρ S1 with
    | bad => rw [q2] at h; exact h
    | exn x S2 => rw [q2] at h; exact exD0.mono x1 h
    | ok e S2 =>
      rw [q2] at h
      simp only [Res.bind_ok] at h
      intro b2 H2 u x2 s2 r2
      cases q3 : cmpD op dd e S2 with
      | none => rw [q3] at h; exact h.elim
      | some k =>
        rw [q3] at h
        simp only [optR, Res.bind_ok] at h
        refine ⟨b2, S2, dd, e, k, s2, r1.mono x2 s1.sub, r2, q3, k, rfl, ?_⟩
        cases k with
        | false =>
          rw [if_neg Bool.false_ne_true] at h ⊢
          exact ⟨false, rfl, h b2 H2 (x1.trans x2) s2⟩
        | true =>
          rw [if_pos rfl] at h ⊢
          refine ⟨b2, ρ, S2, (a0.mono x1 s1).mono x2 s2, ?_⟩
          cases q4 : ev C d ρ S2 with
          | bad => rw [q4] at h; exact h
          | exn x S3 => rw [q4] at h; exact exD0.mono (x1.trans x2) h
          | ok f S3 =>
            rw [q4] at h
            simp only [Res.bind_ok] at h
            intro b3 H3 w x3 s3 r3
            cases q5 : cmpD op' e f S3 with
            | none => rw [q5] at h; exact h.elim
            | some k' =>
              rw [q5] at h
              exact ⟨b3, S3, e, f, k', s3, r2.mono x3 s2.sub, r3, q5, k', rfl, h b3 H3 ((x1.trans x2).trans x3) s3⟩
theorem ts_nil (C : EvC) : PTs X [] (tB X W (evTs C .nil)) := ⟨fun pins s σ H Q I h => pts_nil.run pins s σ H Q I (by
  obtain ⟨b, ρ, S, a0, h⟩ := h
  unfold evTs at h
  exact h b H .refl a0.sr)⟩
theorem ts_one {C : EvC} {e : Ex} {pe : Expr} (h : PT X pe (tB X W (evT C e))) : PTs X [pe] (tB X W (evTs C (.cons e .nil))) := ⟨fun pins s σ H Q I h1 => (pts_one h).run pins s σ H Q I (by
  obtain ⟨b, ρ, S, a0, h1⟩ := h1
  unfold evTs evTs at h1
  refine ⟨b, ρ, S, a0, ?_⟩
  cases q : evT C e ρ S with
  | bad => rw [q] at h1; exact h1
  | exn x S1 => rw [q] at h1; exact h1
  | ok k S1 =>
    rw [q] at h1
    intro b1 H1 x1 s1
    cases k <;> exact h1 b1 H1 x1 s1)⟩

/-! ### targets -/
/-- what is wanted behind a store -/
def finG (X : Cx) (b : Bt) (H : Hp) (Q : L2.St → Hp → Prop) (E : XK) (σ : L2.St) : Res Rho → Prop
  | .ok ρ' S' => ∀ b' σ' H', Ext b H b' H' → At X b' ρ' S' σ' H' → Q σ' H'
  | .exn x S' => exD X b H E x S'
  | .bad => False
def tG (X : Cx) (W : WX) (m : D → Rho → Store → Res Rho) : TG := fun v σ H Q => ∃ b ρ S d, At X b ρ S σ H ∧ RD X.K X.mg b H d v ∧ finG X b H Q (fun c d H' => W c d σ H') σ (m d ρ S)
theorem _root_.L2.PG.imp' {X : Cx} {e : Expr} {t t' : TG} (h : PG X e t) (k : ∀ v σ H Q, t' v σ H Q → t v σ H Q) : PG X e t' := ⟨fun pins s σ H v u Q I r hw => h.run pins s σ H v u Q I r (k v σ H Q hw)⟩
theorem _root_.L2.PGs.imp' {X : Cx} {e : List Expr} {t t' : TGs} (h : PGs X e t) (k : ∀ v σ H Q, t' v σ H Q → t v σ H Q) : PGs X e t' := ⟨fun pins s σ H v u Q I r hw => h.run pins s σ H v u Q I r (k v σ H Q hw)⟩
theorem g_name {C : EvC} {i : Nat} {x : Str} {pos : Pos} (hN : X.N.Nodup) (hi : X.N[i]? = some x) (hx : Loc X.env.scope x) (hf : X.fn x = true ∨ X.env.scope.names.lookup x = some .local) : PG X (.Name x pos) (tG X W (evG C (.name i))) :=
  (pg_name hN hi hx hf).imp' fun v σ H Q h => by
    obtain ⟨b, ρ, S, d, a0, r, h⟩ := h
    unfold evG at h
    exact h b _ H .refl ⟨a0.sr, a0.env.set r i⟩
/-- names that stand at these places -/
def NamesAt (X : Cx) : List Nat → List Expr → Prop
  | [], [] => True
  | i :: is, .Name x _ :: es => X.N[i]? = some x ∧ Loc X.env.scope x ∧ (X.fn x = true ∨ X.env.scope.names.lookup x = some .local) ∧ NamesAt X is es
  | _, _ => False
def tGs (X : Cx) (is : List Nat) : TGs := fun vs σ H Q => ∃ b ρ S ds ρ', At X b ρ S σ H ∧ RDs X.K X.mg b H ds vs ∧ setNs ρ is ds = some ρ' ∧ ∀ σ', At X b ρ' S σ' H → Q σ' H
theorem gs_names (hN : X.N.Nodup) : ∀ {is : List Nat} {es : List Expr}, NamesAt X is es → PGs X es (tGs X is)
  | [], [], _ => pgs_nil.imp' fun vs σ H Q h => by
    obtain ⟨b, ρ, S, ds, ρ', a0, r, e, q⟩ := h
    cases ds with
    | nil =>
      cases r
      cases e
      exact ⟨rfl, q σ a0⟩
    | cons d ds => cases e
  | i :: is, .Name x p :: es, ⟨h1, h2, h3, h4⟩ => by
    refine (pgs_cons (pg_name (i := i) hN h1 h2 h3) (gs_names hN h4)).imp' fun vs σ H Q h => ?_
    obtain ⟨b, ρ, S, ds, ρ', a0, r, e, q⟩ := h
    cases ds with
    | nil => cases e
    | cons d ds =>
      cases r with
      | @cons _ v _ vs r1 rs => exact ⟨v, vs, rfl, b, setN ρ i d, S, ds, ρ', ⟨a0.sr, a0.env.set r1 i⟩, rs, e, q⟩
  | [], _ :: _, h => h.elim
  | _ :: _, [], h => h.elim
theorem names_len : ∀ {is : List Nat} {es : List Expr}, NamesAt X is es → (assignEach es X.env).length = is.length ∧ (assignEach es X.env).findIdx? (·.1) = none
  | [], [], _ => ⟨rfl, rfl⟩
  | i :: is, .Name x p :: es, ⟨_, _, _, h4⟩ => by
    obtain ⟨h1, h2⟩ := names_len h4
    refine ⟨?_, ?_⟩
    · show (assignEach es X.env).length + 1 = is.length + 1
      rw [h1]
    · show ((false, assign (.Name x p) X.env) :: assignEach es X.env).findIdx? (·.1) = none
      rw [List.findIdx?_cons]
      simp only [Bool.false_eq_true, if_false, h2, Option.map_none]
  | [], _ :: _, h => h.elim
  | _ :: _, [], h => h.elim
theorem setNs_len : ∀ {is : List Nat} {ρ ρ' : Rho} {ds : List D}, setNs ρ is ds = some ρ' → ds.length = is.length
  | [], _, _, [], _ => rfl
  | [], _, _, _ :: _, h => by cases h
  | _ :: _, _, _, [], h => by cases h
  | i :: is, ρ, _, d :: ds, h => congrArg Nat.succ (setNs_len (is := is) h)
/-- a, b, .. = a tuple or a list of that length -/
def gSq (K : PySem.W.Frag) (n : Nat) (t : TGs) : TG := fun v σ H Q => ∃ a xs, v = .ref a ∧ (SqL K H a xs ∨ SqT K H a xs) ∧ xs.length = n ∧ t xs σ H Q
theorem pg_sq {es : List Expr} {k : Nat} {t : TGs} {n : Nat} {pos : Pos} (hc : X.calm = true) (h : PGs X es t) (hn : (assignEach es X.env).length = n) (hst : (assignEach es X.env).findIdx? (·.1) = none) : PG X (.Tuple es k pos) (gSq X.K n t) := by
  refine ⟨fun pins s σ H v u Q I r hw => ?_⟩
  obtain ⟨a, xs, e1, hq, hl, hw⟩ := hw
  rcases hq with hq | hq
  · exact (L2.pg_unl hc h hn hst).run pins s σ H v u Q I r ⟨a, xs, e1, hq, hl, hw⟩
  · exact (L2.pg_tup hc h hn hst).run pins s σ H v u Q I r ⟨a, xs, e1, hq, hl, hw⟩
theorem g_tup {C : EvC} {is : List Nat} {es : List Expr} {k : Nat} {pos : Pos} (hc : X.calm = true) (hN : X.N.Nodup) (h : NamesAt X is es) : PG X (.Tuple es k pos) (tG X W (evG C (.tup is))) := by
  refine (pg_sq hc (gs_names hN h) (names_len h).1 (names_len h).2).imp' fun v σ H Q h => ?_
  obtain ⟨b, ρ, S, d, a0, r, h⟩ := h
  unfold evG at h
  split at h
  · rename_i ds q
    obtain ⟨a, vs, rfl, hq, r1⟩ := seqOf_ok a0.sr q r
    cases e : setNs ρ is ds with
    | none => rw [e] at h; exact h.elim
    | some ρ' =>
      rw [e] at h
      exact ⟨a, vs, rfl, hq, by rw [← r1.length]; exact setNs_len e, b, ρ, S, ds, ρ', a0, r1, e, fun σ' a' => h b σ' H .refl a'⟩
  · exact h.elim
def notSlice : Expr → Bool
  | .Slice _ _ _ _ => false
  | _ => true
theorem g_ix {C : EvC} {o i : Ex} {po pi : Expr} {pos : Pos} (hs : notSlice pi = true) (ho : PE X po (tE X W (ev C o))) (hi : PE X pi (tE X W (ev C i))) : PG X (.Subscript po pi pos) (tG X W (evG C (.ix o i))) := by
  refine (pg_sub ho hi set_list (by intro v; cases pi <;> first | rfl | cases hs)).imp' fun v σ H Q h => ?_
  obtain ⟨b, ρ, S, d, a0, r, h⟩ := h
  unfold evG at h
  refine ⟨b, ρ, S, a0, ?_⟩
  cases q : ev C o ρ S with
  | bad => rw [q] at h; exact h
  | exn x S1 => rw [q] at h; exact h
  | ok x S1 =>
    rw [q] at h
    simp only [Res.bind_ok] at h
    intro b1 H1 ov x1 s1 r1
    refine ⟨b1, ρ, S1, a0.mono x1 s1, ?_⟩
    cases q2 : ev C i ρ S1 with
    | bad => rw [q2] at h; exact h
    | exn y S2 => rw [q2] at h; exact exD0.mono x1 h
    | ok y S2 =>
      rw [q2] at h
      simp only [Res.bind_ok] at h
      intro b2 H2 iv x2 s2 r2
      have rv := (r.mono x1 a0.sr.sub).mono x2 s1.sub
      have ro := r1.mono x2 s1.sub
      unfold setIx at h
      split at h
      · rename_i S3 e
        split at e
        · rename_i n kk
          cases ro with
          | @ref _ a hb =>
          cases r2
          split at e
          · rename_i xs e1
            obtain ⟨vs, h1, rw1⟩ := ref_lst s2 e1 hb
            cases e2 : ixN xs.length kk with
            | none => rw [e2] at e; cases e
            | some j =>
              rw [e2] at e
              cases e
              refine ⟨a, vs, kk, j, rfl, rfl, h1, by rw [← rw1.length]; exact e2, ?_⟩
              have x3 : Ext b2 H2 b2 (upd H2 a (.lst (vs.set j v))) := ext_upd s2 hb
              have s3 := s2.upd (u := .lst (xs.set j d)) hb ⟨_, upd_same, (rw1.set j rv).mono x3 s2.sub⟩
              exact h b2 σ _ ((x1.trans x2).trans x3) ⟨s3, ((a0.env.mono x1 a0.sr.sub).mono x2 s1.sub).mono x3 s2.sub⟩
          · cases e
        · cases e
      · exact h.elim

/-! ### what is walked -/
/-- the walk J goes as the source says, whatever comes -/
def ItR (X : Cx) (src : Src) (J : L2.It) (b0 : Bt) (H0 : Hp) : Prop := ∀ (b : Bt) (H : Hp) (S : Store) (i : Nat), Ext b0 H0 b H → SR X.K X.mg b S H → match src.at i S with
  | none => True
  | some none => J.stop i H
  | some (some d) => J.go i H ∧ ∀ v H', J.yld i H v H' → Ext b H b H' ∧ SR X.K X.mg b S H' ∧ RD X.K X.mg b H' d v
def tI (X : Cx) (W : WX) (m : M Src) : TI := fun σ H R => ∃ b ρ S, At X b ρ S σ H ∧ match m ρ S with
  | .ok src S1 => ∀ b' H' J, Ext b H b' H' → SR X.K X.mg b' S1 H' → ItR X src J b' H' → R J H'
  | .exn x S1 => exD X b H (fun c d H' => W c d σ H') x S1
  | .bad => False
theorem _root_.L2.PI.imp' {X : Cx} {tg e : Expr} {t t' : TI} (h : PI X tg e t) (k : ∀ σ H Q, t' σ H Q → t σ H Q) : PI X tg e t' := ⟨fun pins s σ H Q I hw => h.run pins s σ H Q I (k σ H Q hw)⟩
theorem itR_list {src : Src} {a : Addr} (sr : SR X.K X.mg b S H) (h : ∀ (b' : Bt) (H' : Hp) (S' : Store) (i : Nat), Ext b H b' H' → SR X.K X.mg b' S' H' → match src.at i S' with
    | none => True
    | some o => ∃ xs vs, SqL X.K H' a vs ∧ RDs X.K X.mg b' H' xs vs ∧ o = xs[i]?) : ItR X src (Itl X.K a) b H := by
  intro b1 H1 S1 i x1 s1
  have q := h b1 H1 S1 i x1 s1
  cases e : src.at i S1 with
  | none => trivial
  | some o =>
    rw [e] at q
    obtain ⟨xs, vs, h1, r, e1⟩ := q
    cases o with
    | none => exact ⟨vs, h1, by rw [← r.length]; exact List.getElem?_eq_none_iff.mp e1.symm⟩
    | some d =>
      obtain ⟨v, hv, rv⟩ := r.get e1.symm
      refine ⟨⟨vs, v, h1, hv⟩, fun u H' hy => ?_⟩
      obtain ⟨e2, hu⟩ := hy
      subst e2
      have e3 := (hu vs h1).symm.trans hv
      cases e3
      exact ⟨.refl, s1, rv⟩
theorem itR_tup {xs : List D} {a : Addr} {vs : List V} (sr : SR X.K X.mg b S H) (f : FzT X.K b H a vs) (r : RDs X.K X.mg b H xs vs) : ItR X (.seq xs) (Itt X.K a) b H := by
  intro b1 H1 S1 i x1 s1
  have rt := RD.mono x1 sr.sub (RD.tup f r)
  cases rt with
  | @tup _ ws _ f1 r1 =>
  unfold Src.at
  simp only
  cases e : xs[i]? with
  | none => exact ⟨ws, f1.ok, by rw [← r1.length]; exact List.getElem?_eq_none_iff.mp e⟩
  | some d =>
    obtain ⟨v, hv, rv⟩ := r1.get e
    refine ⟨⟨ws, v, f1.ok, hv⟩, fun u H' hy => ?_⟩
    obtain ⟨e2, hu⟩ := hy
    subst e2
    have e3 := (hu ws f1.ok).symm.trans hv
    cases e3
    exact ⟨.refl, s1, rv⟩
theorem lst_later {a : Addr} {vs : List V} {xs : List D} (sr : SR X.K X.mg b S H) (f : FzL b H a vs) (r : RDs X.K X.mg b H xs vs) {H1 : Hp} {b1 : Bt} (x1 : Ext b H b1 H1) : SqL X.K H1 a vs ∧ RDs X.K X.mg b1 H1 xs vs :=
  ⟨.inl (.inl (x1.keep _ _ f.1 fun z => f.2 (sr.sub _ z))), r.mono x1 sr.sub⟩
theorem kl_later {a : Addr} {vs : List V} {xs : List D} (sr : SR X.K X.mg b S H) (f : FzK X.K b H a vs) (r : RDs X.K X.mg b H xs vs) {H1 : Hp} {b1 : Bt} (x1 : Ext b H b1 H1) : SqL X.K H1 a vs ∧ RDs X.K X.mg b1 H1 xs vs := by
  refine ⟨?_, r.mono x1 sr.sub⟩
  rcases f with ⟨f, n⟩ | f
  · exact .inl (Rd_mono f x1 fun z => n (sr.sub _ z))
  · exact .inr f
theorem tup_later {a : Addr} {vs : List V} {xs : List D} (sr : SR X.K X.mg b S H) (f : FzT X.K b H a vs) (r : RDs X.K X.mg b H xs vs) {H1 : Hp} {b1 : Bt} (x1 : Ext b H b1 H1) : SqT X.K H1 a vs ∧ RDs X.K X.mg b1 H1 xs vs := by
  refine ⟨?_, r.mono x1 sr.sub⟩
  rcases f with ⟨f, n⟩ | f
  · exact .inl (Rd_mono f x1 fun z => n (sr.sub _ z))
  · exact .inr f
theorem pi_seq {tg l : Expr} {tl : TE} (hl : PE X l tl) : PI X tg l (fun σ H R => tl σ H fun x H1 => ∃ a, x = .ref a ∧ (((∃ xs, SqL X.K H1 a xs) ∧ R (Itl X.K a) H1) ∨ ((∃ xs, SqT X.K H1 a xs) ∧ R (Itt X.K a) H1))) := by
  refine ⟨fun pins s σ H R I h => thn (hl.run pins s σ H _ I h) fun v s1 q => ?_⟩
  obtain ⟨x, H1, I1, r1, a, e, q⟩ := q
  subst e
  obtain rfl : v = Value.ref a := r1
  have one : ∀ b ∈ [s1.heap.objs.size], FpOk X pins H1 b := fun b hb => by
    rw [List.mem_singleton.mp hb]
    exact I1.fpOk (Nat.le_refl _) (I1.hok.fresh (Nat.le_refl _))
  rcases q with ⟨⟨xs, hq⟩, q⟩ | ⟨⟨xs, hq⟩, q⟩
  · obtain ⟨its, rv, p, hz⟩ := I1.list hq
    exact wpAny_pyIter_list p.isList ⟨_, [s1.heap.objs.size], _, _, H1, rfl, I1.kept (t' := s1.toks) fun c o z => Heap.get?_push_of_some _ z, turn_list a _, ⟨_, Heap.get?_push_size _ rfl, rfl, rfl⟩, one, q⟩
  · obtain ⟨its, rv, p, hz⟩ := I1.tuple hq
    exact wpAny_pyIter_tuple (show s1.heap.IsTuple a its.toArray from p) ⟨_, [s1.heap.objs.size], _, _, H1, rfl, I1.kept (t' := s1.toks) fun c o z => Heap.get?_push_of_some _ z, turn_tuple a _, ⟨_, Heap.get?_push_size _ rfl, rfl, rfl⟩, one, q⟩
/-- list and tuple values, as sources -/
theorem src_seq {d : D} {v : V} {src : Src} (sr : SR X.K X.mg b S H) (r : RD X.K X.mg b H d v) (h : srcVal S d = some src) (hz : ∀ z, v ≠ .str z) :
    ∃ a, v = .ref a ∧ (((∃ xs, SqL X.K H a xs) ∧ ItR X src (Itl X.K a) b H) ∨ ((∃ xs, SqT X.K H a xs) ∧ ItR X src (Itt X.K a) b H)) := by
  cases r with
  | @tup a vs ds f r =>
    cases h
    exact ⟨a, rfl, .inr ⟨⟨vs, f.ok⟩, itR_tup sr f r⟩⟩
  | @lst a vs ds f r =>
    cases h
    refine ⟨a, rfl, .inl ⟨⟨vs, f.ok _⟩, itR_list sr fun b1 H1 S1 i x1 s1 => ?_⟩⟩
    obtain ⟨h1, h2⟩ := lst_later sr f r x1
    exact ⟨ds, vs, h1, h2, rfl⟩
  | @kl a vs ds f r =>
    cases h
    refine ⟨a, rfl, .inl ⟨⟨vs, f.ok⟩, itR_list sr fun b1 H1 S1 i x1 s1 => ?_⟩⟩
    obtain ⟨h1, h2⟩ := kl_later sr f r x1
    exact ⟨ds, vs, h1, h2, rfl⟩
  | @ref n a hb =>
    unfold srcVal at h
    simp only at h
    split at h
    · rename_i xs q
      cases h
      obtain ⟨vs, h1, r1⟩ := ref_lst sr q hb
      refine ⟨a, rfl, .inl ⟨⟨vs, .inl (.inl h1)⟩, itR_list sr fun b1 H1 S1 i x1 s1 => ?_⟩⟩
      unfold Src.at
      simp only
      cases e : S1[n]? with
      | none => trivial
      | some o =>
        cases o with
        | lst ys =>
          obtain ⟨ws, h2, r2⟩ := ref_lst s1 e (x1.pre hb)
          exact ⟨ys, ws, .inl (.inl h2), r2, rfl⟩
        | _ => trivial
    · cases h
  | str z => exact absurd rfl (hz z)
  | _ => cases h
theorem srcVal_str {z : Str} : srcVal S (.str z) = some (.str z) := rfl
/-- .. of a value that is no text -/
def noStrSrc : Res Src → Prop
  | .ok (.str _) _ => False
  | _ => True
theorem i_val {C : EvC} {e : Ex} {tg pe : Expr} (h : PE X pe (tE X W (ev C e))) : PI X tg pe (tI X W (evI C (.val e))) := by
  refine (pi_seq h).imp' fun σ H R h => ?_
  obtain ⟨b, ρ, S, a0, h⟩ := h
  simp only [evI] at h
  refine ⟨b, ρ, S, a0, ?_⟩
  cases q : ev C e ρ S with
  | bad => rw [q] at h; exact h
  | exn x S1 => rw [q] at h; exact h
  | ok d S1 =>
    rw [q] at h
    simp only [Res.bind_ok] at h
    intro b1 H1 v x1 s1 r1
    have hz : ∀ z, v ≠ .str z := fun z e => by
      subst e
      cases r1
      exact h
    have h' : match optR (srcVal S1 d) S1 with
      | .ok src S1 => ∀ b' H' J, Ext b H b' H' → SR X.K X.mg b' S1 H' → ItR X src J b' H' → R J H'
      | .exn x S1 => exD X b H (fun c d H' => W c d σ H') x S1
      | .bad => False := by
      cases d <;> first | exact h | exact h.elim
    cases e2 : srcVal S1 d with
    | none => rw [e2] at h'; exact h'.elim
    | some src =>
      rw [e2] at h'
      obtain ⟨a, ev', q3⟩ := src_seq s1 r1 e2 hz
      refine ⟨a, ev', ?_⟩
      rcases q3 with ⟨p1, p2⟩ | ⟨p1, p2⟩
      · exact .inl ⟨p1, h' b1 H1 _ x1 s1 p2⟩
      · exact .inr ⟨p1, h' b1 H1 _ x1 s1 p2⟩
theorem i_str {C : EvC} {e : Ex} {tg pe : Expr} (h : PE X pe (tE X W (ev C e))) : PI X tg pe (tI X W (evI C (.str e))) := by
  refine (pi_str h).imp' fun σ H R h => ?_
  obtain ⟨b, ρ, S, a0, h⟩ := h
  simp only [evI] at h
  refine ⟨b, ρ, S, a0, ?_⟩
  cases q : ev C e ρ S with
  | bad => rw [q] at h; exact h
  | exn x S1 => rw [q] at h; exact h
  | ok d S1 =>
    rw [q] at h
    simp only [Res.bind_ok] at h
    intro b1 H1 v x1 s1 r1
    cases r1 with
    | str z =>
      refine ⟨z, rfl, h b1 H1 _ x1 s1 fun b2 H2 S2 i x2 s2 => ?_⟩
      unfold Src.at
      simp only
      cases e : z.cps[i]? with
      | none => exact Array.getElem?_eq_none_iff.mp e
      | some c =>
        refine ⟨(Array.getElem?_eq_some_iff.mp e).1, fun u H' hy => ?_⟩
        obtain ⟨e1, c', e2, e3⟩ := hy
        rw [e] at e2
        cases e2
        subst e1 e3
        exact ⟨.refl, s2, .str _⟩
    | _ => exact h.elim
theorem itR_rng {lo : Int} {n : Nat} {b0 : Bt} {H0 : Hp} : ItR X (.rng lo n) (Itr lo n) b0 H0 := by
  intro b1 H1 S1 i x1 s1
  unfold Src.at
  simp only
  by_cases h : i < n
  · rw [if_pos h]
    refine ⟨h, fun u H' hy => ?_⟩
    obtain ⟨e1, e2⟩ := hy
    subst e1 e2
    exact ⟨.refl, s1, .int _⟩
  · rw [if_neg h]
    exact Nat.le_of_not_lt h
theorem i_range1 {C : EvC} {e : Ex} {tg pe : Expr} {p pos : Pos} (hg : Gl X "range") (hm : X.mg "range" = none) (hs : starEach [pe] X.env = (false, eval pe X.env) :: starEach [] X.env) (h : PE X pe (tE X W (ev C e))) :
    PI X tg (.Call (.Name "range" p) [pe] [] pos) (tI X W (evI C (.range (.cons e .nil)))) := by
  refine (pi_range1 hg hm (r_cons h (r_nil C) hs) (by rw [hs]; rfl)).imp' fun σ H R h => ?_
  obtain ⟨b, ρ, S, a0, h⟩ := h
  unfold evI at h
  refine ⟨b, ρ, S, a0, ?_⟩
  cases q : evs C (.cons e .nil) ρ S with
  | bad => rw [q] at h; exact h
  | exn x S1 => rw [q] at h; exact h
  | ok ds S1 =>
    rw [q] at h
    simp only [Res.bind_ok] at h
    have hl := evs_len C _ _ _ _ _ q
    intro b1 H1 vs x1 s1 r1
    match ds, hl, r1, h with
    | [d], _, .cons r .nil, h =>
      cases r with
      | int j =>
        unfold srcRange at h
        simp only at h
        split at h
        · rename_i src S1' e
          split at e
          · rename_i hz
            cases e
            exact ⟨j, rfl, (by omega), (by omega), h b1 H1 _ x1 s1 itR_rng⟩
          · cases e
        · rename_i e
          split at e <;> cases e
        · exact h.elim
      | _ => exact h.elim
theorem i_range2 {C : EvC} {e f : Ex} {tg pe pf : Expr} {p pos : Pos} (hg : Gl X "range") (hm : X.mg "range" = none) (hs : starEach [pe, pf] X.env = (false, eval pe X.env) :: starEach [pf] X.env) (hs2 : starEach [pf] X.env = (false, eval pf X.env) :: starEach [] X.env)
    (h : PE X pe (tE X W (ev C e))) (h2 : PE X pf (tE X W (ev C f))) :
    PI X tg (.Call (.Name "range" p) [pe, pf] [] pos) (tI X W (evI C (.range (.cons e (.cons f .nil))))) := by
  refine (pi_range2 hg hm (r_cons h (r_cons h2 (r_nil C) hs2) hs) (by rw [hs, hs2]; rfl) (by rw [hs2]; rfl)).imp' fun σ H R h => ?_
  obtain ⟨b, ρ, S, a0, h⟩ := h
  unfold evI at h
  refine ⟨b, ρ, S, a0, ?_⟩
  cases q : evs C (.cons e (.cons f .nil)) ρ S with
  | bad => rw [q] at h; exact h
  | exn x S1 => rw [q] at h; exact h
  | ok ds S1 =>
    rw [q] at h
    simp only [Res.bind_ok] at h
    have hl := evs_len C _ _ _ _ _ q
    intro b1 H1 vs x1 s1 r1
    match ds, hl, r1, h with
    | [d, d'], _, .cons r (.cons r' .nil), h =>
      cases r with
      | int i =>
        cases r' with
        | int j =>
          unfold srcRange at h
          simp only at h
          split at h
          · rename_i src S1' e
            split at e
            · rename_i hz
              cases e
              exact ⟨i, j, rfl, ⟨by omega, by omega, by omega, by omega⟩, h b1 H1 _ x1 s1 itR_rng⟩
            · cases e
          · rename_i e
            split at e <;> cases e
          · exact h.elim
        | _ => exact h.elim
      | _ => exact h.elim
end
end DL
/-! DL8: enumerate, zip; comprehensions; loops and statements. -/
namespace DL
open PySem PySem.Spec L2
open PyProof.Rows hiding St
section
variable {X : Cx} {W : WX} {b b' : Bt} {ρ : Rho} {S S' : Store} {σ : L2.St} {H H' : Hp}

/-- a new pair -/
theorem pair_ok {T : Addr} {x y : V} {d e : D} (sr : SR X.K X.mg b S H) (hT : H T = none) (r1 : RD X.K X.mg b H d x) (r2 : RD X.K X.mg b H e y) :
    Ext b H b (upd H T (.tup [x, y])) ∧ SR X.K X.mg b S (upd H T (.tup [x, y])) ∧ RD X.K X.mg b (upd H T (.tup [x, y])) (.tup [d, e]) (.ref T) :=
  ⟨ext_new hT, sr.new hT, .tup (.inl ⟨.inl upd_same, sr.nav hT⟩) (.cons (r1.mono (ext_new hT) sr.sub) (.cons (r2.mono (ext_new hT) sr.sub) .nil))⟩
theorem itR_enumL {src : Src} {a : Addr} (h : ∀ (b' : Bt) (H' : Hp) (S' : Store) (i : Nat), Ext b H b' H' → SR X.K X.mg b' S' H' → match src.at i S' with
    | none => True
    | some o => ∃ xs vs, SqL X.K H' a vs ∧ RDs X.K X.mg b' H' xs vs ∧ o = xs[i]?.map fun x => .tup [.int i, x]) : ItR X src (Ite X.K a) b H := by
  intro b1 H1 S1 i x1 s1
  have q := h b1 H1 S1 i x1 s1
  cases e : src.at i S1 with
  | none => trivial
  | some o =>
    rw [e] at q
    obtain ⟨xs, vs, h1, r, e1⟩ := q
    cases q2 : xs[i]? with
    | none =>
      rw [q2] at e1
      cases e1
      exact ⟨vs, h1, by rw [← r.length]; exact List.getElem?_eq_none_iff.mp q2⟩
    | some d =>
      rw [q2] at e1
      cases e1
      obtain ⟨v, hv, rv⟩ := r.get q2
      refine ⟨⟨vs, v, h1, hv⟩, fun u H' hy => ?_⟩
      obtain ⟨T, x, e2, hT, e3, hx⟩ := hy
      subst e2 e3
      have e3 := (hx vs h1).symm.trans hv
      cases e3
      exact pair_ok s1 hT (.int _) rv
theorem itR_enumT {xs : List D} {a : Addr} {vs : List V} (sr : SR X.K X.mg b S H) (f : FzT X.K b H a vs) (r : RDs X.K X.mg b H xs vs) : ItR X (.enum xs) (IteT X.K a) b H := by
  intro b1 H1 S1 i x1 s1
  obtain ⟨h1, r1⟩ := tup_later sr f r x1
  unfold Src.at
  simp only
  cases q2 : xs[i]? with
  | none => exact ⟨vs, h1, by rw [← r1.length]; exact List.getElem?_eq_none_iff.mp q2⟩
  | some d =>
    obtain ⟨v, hv, rv⟩ := r1.get q2
    refine ⟨⟨vs, v, h1, hv⟩, fun u H' hy => ?_⟩
    obtain ⟨T, x, e2, hT, e3, hx⟩ := hy
    subst e2 e3
    have e3 := (hx vs h1).symm.trans hv
    cases e3
    exact pair_ok s1 hT (.int _) rv
theorem i_enum {C : EvC} {e : Ex} {pe : Expr} {elts : List Expr} {kk : Nat} {p pos tpos : Pos} (hg : Gl X "enumerate") (hm : X.mg "enumerate" = none) (hs : starEach [pe] X.env = (false, eval pe X.env) :: starEach [] X.env) (h : PE X pe (tE X W (ev C e))) :
    PI X (.Tuple elts kk tpos) (.Call (.Name "enumerate" p) [pe] [] pos) (tI X W (evI C (.enum e))) := by
  refine (pi_enumA hg hm (pa_cons h pa_nil hs) (by rw [hs]; rfl)).imp' fun σ H R h => ?_
  obtain ⟨b, ρ, S, a0, h⟩ := h
  simp only [evI] at h
  refine ⟨b, ρ, S, a0, ?_⟩
  cases q : ev C e ρ S with
  | bad => rw [q] at h; exact h
  | exn x S1 => rw [q] at h; exact h
  | ok d S1 =>
    rw [q] at h
    simp only [Res.bind_ok] at h
    intro b1 H1 v x1 s1 r1
    cases r1 with
    | @tup a vs ds f r => exact ⟨a, vs, rfl, .inr ⟨f.ok, h b1 H1 _ x1 s1 (itR_enumT s1 f r)⟩⟩
    | @lst a vs ds f r =>
      refine ⟨a, vs, rfl, .inl ⟨f.ok _, h b1 H1 _ x1 s1 (itR_enumL fun b2 H2 S2 i x2 s2 => ?_)⟩⟩
      obtain ⟨h1, h2⟩ := lst_later s1 f r x2
      exact ⟨ds, vs, h1, h2, rfl⟩
    | @kl a vs ds f r =>
      refine ⟨a, vs, rfl, .inl ⟨f.ok, h b1 H1 _ x1 s1 (itR_enumL fun b2 H2 S2 i x2 s2 => ?_)⟩⟩
      obtain ⟨h1, h2⟩ := kl_later s1 f r x2
      exact ⟨ds, vs, h1, h2, rfl⟩
    | @ref n a hb =>
      unfold srcEnum at h
      simp only at h
      cases q3 : S1[n]? with
      | none => rw [q3] at h; exact h.elim
      | some o =>
        rw [q3] at h
        cases o with
        | lst xs =>
          obtain ⟨vs, h1, r1⟩ := ref_lst s1 q3 hb
          refine ⟨a, vs, rfl, .inl ⟨.inl (.inl h1), h b1 H1 _ x1 s1 (itR_enumL fun b2 H2 S2 i x2 s2 => ?_)⟩⟩
          unfold Src.at
          simp only
          cases e : S2[n]? with
          | none => trivial
          | some o =>
            cases o with
            | lst ys =>
              obtain ⟨ws, h2, r2⟩ := ref_lst s2 e (x2.pre hb)
              exact ⟨ys, ws, .inl (.inl h2), r2, rfl⟩
            | _ => trivial
        | _ => exact h.elim
    | _ => exact h.elim
theorem itR_zipT {xs ys : List D} {a c : Addr} {vs ws : List V} (sr : SR X.K X.mg b S H) (f : FzT X.K b H a vs) (r : RDs X.K X.mg b H xs vs) (f' : FzT X.K b H c ws) (r' : RDs X.K X.mg b H ys ws) : ItR X (.zip xs ys) (RZ.ItzT X.K a c) b H := by
  intro b1 H1 S1 i x1 s1
  obtain ⟨h1, r1⟩ := tup_later sr f r x1
  obtain ⟨h2, r2⟩ := tup_later sr f' r' x1
  unfold Src.at
  simp only
  cases q1 : xs[i]? with
  | none => exact ⟨vs, ws, h1, h2, .inl (by rw [← r1.length]; exact List.getElem?_eq_none_iff.mp q1)⟩
  | some d =>
    cases q2 : ys[i]? with
    | none => exact ⟨vs, ws, h1, h2, .inr (by rw [← r2.length]; exact List.getElem?_eq_none_iff.mp q2)⟩
    | some e =>
      obtain ⟨v, hv, rv⟩ := r1.get q1
      obtain ⟨w, hw, rw'⟩ := r2.get q2
      refine ⟨⟨vs, ws, v, w, h1, h2, hv, hw⟩, fun u H' hy => ?_⟩
      obtain ⟨T, x, y, e2, hT, e3, hx, hy⟩ := hy
      subst e2 e3
      have e3 := (hx vs h1).symm.trans hv
      have e4 := (hy ws h2).symm.trans hw
      cases e3
      cases e4
      exact pair_ok s1 hT rv rw'
theorem itR_zipL {xs ys : List D} {a c : Addr} {vs ws : List V} (h : ∀ (b' : Bt) (H' : Hp), Ext b H b' H' → (SqL X.K H' a vs ∧ RDs X.K X.mg b' H' xs vs) ∧ SqL X.K H' c ws ∧ RDs X.K X.mg b' H' ys ws) : ItR X (.zip xs ys) (Itz X.K a c) b H := by
  intro b1 H1 S1 i x1 s1
  obtain ⟨⟨h1, r1⟩, h2, r2⟩ := h b1 H1 x1
  unfold Src.at
  simp only
  cases q1 : xs[i]? with
  | none => exact ⟨vs, ws, h1, h2, .inl (by rw [← r1.length]; exact List.getElem?_eq_none_iff.mp q1)⟩
  | some d =>
    cases q2 : ys[i]? with
    | none => exact ⟨vs, ws, h1, h2, .inr (by rw [← r2.length]; exact List.getElem?_eq_none_iff.mp q2)⟩
    | some e =>
      obtain ⟨v, hv, rv⟩ := r1.get q1
      obtain ⟨w, hw, rw'⟩ := r2.get q2
      refine ⟨⟨vs, ws, v, w, h1, h2, hv, hw⟩, fun u H' hy => ?_⟩
      obtain ⟨T, x, y, e2, hT, e3, hx, hy⟩ := hy
      subst e2 e3
      have e3 := (hx vs h1).symm.trans hv
      have e4 := (hy ws h2).symm.trans hw
      cases e3
      cases e4
      exact pair_ok s1 hT rv rw'
theorem i_zip {C : EvC} {e f : Ex} {pe pf : Expr} {elts : List Expr} {kk : Nat} {p pos tpos : Pos} (hg : Gl X "zip") (hm : X.mg "zip" = none) (hs : starEach [pe, pf] X.env = (false, eval pe X.env) :: starEach [pf] X.env) (hs2 : starEach [pf] X.env = (false, eval pf X.env) :: starEach [] X.env)
    (h : PE X pe (tE X W (ev C e))) (h2 : PE X pf (tE X W (ev C f))) : PI X (.Tuple elts kk tpos) (.Call (.Name "zip" p) [pe, pf] [] pos) (tI X W (evI C (.zip e f))) := by
  refine (RZ.pi_zipA hg hm (pa_cons h (pa_cons h2 pa_nil hs2) hs) hs (by rw [hs2]; rfl)).imp' fun σ H R h => ?_
  obtain ⟨b, ρ, S, a0, h⟩ := h
  simp only [evI] at h
  refine ⟨b, ρ, S, a0, ?_⟩
  cases q : ev C e ρ S with
  | bad => rw [q] at h; exact h
  | exn x S1 => rw [q] at h; exact h
  | ok d S1 =>
    rw [q] at h
    simp only [Res.bind_ok] at h
    intro b1 H1 v x1 s1 r1
    refine ⟨b1, ρ, S1, a0.mono x1 s1, ?_⟩
    cases q2 : ev C f ρ S1 with
    | bad => rw [q2] at h; exact h
    | exn x S2 => rw [q2] at h; exact exD0.mono x1 h
    | ok d2 S2 =>
      rw [q2] at h
      simp only [Res.bind_ok] at h
      intro b2 H2 v2 x2 s2 r2
      have r1' := r1.mono x2 s1.sub
      have x12 := x1.trans x2
      cases r1' with
      | @tup a vs ds g r =>
        cases r2 with
        | @tup a2 ws es g2 r2 => exact ⟨a, a2, vs, ws, rfl, .inr ⟨g.ok, g2.ok, h b2 H2 _ x12 s2 (itR_zipT s2 g r g2 r2)⟩⟩
        | _ => exact h.elim
      | @lst a vs ds g r =>
        cases r2 with
        | @lst a2 ws es g2 r2 => exact ⟨a, a2, vs, ws, rfl, .inl ⟨g.ok _, g2.ok _, h b2 H2 _ x12 s2 (itR_zipL fun b3 H3 x3 => ⟨lst_later s2 g r x3, lst_later s2 g2 r2 x3⟩)⟩⟩
        | @kl a2 ws es g2 r2 => exact ⟨a, a2, vs, ws, rfl, .inl ⟨g.ok _, g2.ok, h b2 H2 _ x12 s2 (itR_zipL fun b3 H3 x3 => ⟨lst_later s2 g r x3, kl_later s2 g2 r2 x3⟩)⟩⟩
        | _ => exact h.elim
      | @kl a vs ds g r =>
        cases r2 with
        | @lst a2 ws es g2 r2 => exact ⟨a, a2, vs, ws, rfl, .inl ⟨g.ok, g2.ok _, h b2 H2 _ x12 s2 (itR_zipL fun b3 H3 x3 => ⟨kl_later s2 g r x3, lst_later s2 g2 r2 x3⟩)⟩⟩
        | @kl a2 ws es g2 r2 => exact ⟨a, a2, vs, ws, rfl, .inl ⟨g.ok, g2.ok, h b2 H2 _ x12 s2 (itR_zipL fun b3 H3 x3 => ⟨kl_later s2 g r x3, kl_later s2 g2 r2 x3⟩)⟩⟩
        | _ => exact h.elim
      | _ => cases r2 <;> exact h.elim

/-! ### comprehensions -/
abbrev W0 : WX := fun _ _ _ _ => False
/-- what is laid while a list is being made: its place is not to be taken as frozen -/
def Bt.hide (b : Bt) (p : Addr) : Bt := ⟨b.β, b.av ++ [p]⟩
theorem ext_hide {p : Addr} {o : HO} (hp : H p = none) : Ext b H (b.hide p) (upd H p o) :=
  ⟨⟨[], [p], by simp [Bt.hide], rfl, nil_none, fun a h => by rw [List.mem_singleton.mp h]; exact hp⟩, (ext_new (b := b) (o := o) hp).keep, (ext_new (b := b) (o := o) hp).there⟩
theorem SR.hide {p : Addr} {o : HO} (s : SR X.K X.mg b S H) (hp : H p = none) : SR X.K X.mg (b.hide p) S (L2.upd H p o) := by
  have x : Ext b H (b.hide p) (L2.upd H p o) := ext_hide hp
  refine ⟨s.len, s.nd, fun a ha => List.mem_append_left _ (s.sub a ha), fun a ha => ?_, fun n u a h1 h2 => ?_⟩
  · rcases List.mem_append.mp ha with z | z
    · exact x.there a (s.own a z)
    · rw [List.mem_singleton.mp z, upd_same]; exact fun z => nomatch z
  · have ne : a ≠ p := fun z => s.own a (s.sub a (List.mem_of_getElem? h2)) (by rw [z]; exact hp)
    exact SR.mono_obj (S := S) x s.sub (s.obj n u a h1 h2) (upd_ne ne)
/-- the list that was made, told -/
theorem made_ok {Q : VK} {m : Bool} {ds : List D} {vs : List V} {p : Addr} {H1 : Hp} {b1 : Bt} (hp : H p = none) (x : Ext b H b1 H1) (hpa : p ∈ b1.av) (hpβ : p ∉ b1.β) (s1 : SR X.K X.mg b1 S H1) (hD : H1 p = some (.lst vs)) (r : RDs X.K X.mg b1 H1 ds vs)
    (hav : p ∉ b.av) (h : pfin X b H Q (newL m ds S)) : Q (.ref p) H1 := by
  obtain ⟨γ, δ, e1, e2, f1, f2⟩ := x.ex
  cases m with
  | false =>
    let b2 : Bt := ⟨b1.β, b.av ++ δ.filter fun a => decide (a ≠ p)⟩
    have inδ : ∀ a, a ∈ δ.filter (fun a => decide (a ≠ p)) ↔ a ∈ δ ∧ a ≠ p := fun a => by
      rw [List.mem_filter, decide_eq_true_iff]
    have sub : ∀ a ∈ b2.av, a ∈ b1.av := fun a ha => by
      rw [e2]
      rcases List.mem_append.mp ha with z | z
      · exact List.mem_append_left _ z
      · exact List.mem_append_right _ ((inδ a).mp z).1
    have hβ : ∀ (n : Nat) (a : Addr), b1.β[n]? = some a → b2.β[n]? = some a := fun _ _ z => z
    have x2 : Ext b H b2 H1 := ⟨⟨γ, _, e1, rfl, f1, fun a ha => f2 a ((inδ a).mp ha).1⟩, x.keep, x.there⟩
    have s2 : SR X.K X.mg b2 S H1 := by
      refine ⟨s1.len, s1.nd, fun a ha => ?_, fun a ha => s1.own a (sub a ha), fun n u a h1 h2 => OR.weak hβ sub (s1.obj n u a h1 h2)⟩
      have q := s1.sub a ha
      rw [e2] at q
      rcases List.mem_append.mp q with z | z
      · exact List.mem_append_left _ z
      · exact List.mem_append_right _ ((inδ a).mpr ⟨z, fun e => hpβ (by rw [← e]; exact ha)⟩)
    refine h b2 H1 _ x2 s2 (.lst ⟨hD, fun z => ?_⟩ (r.weak hβ sub))
    rcases List.mem_append.mp z with z | z
    · exact hav z
    · exact ((inδ p).mp z).2 rfl
  | true =>
    let b2 : Bt := ⟨b1.β ++ [p], b1.av⟩
    have hβ : ∀ (n : Nat) (a : Addr), b1.β[n]? = some a → b2.β[n]? = some a := fun n a z => by
      obtain ⟨q, _⟩ := List.getElem?_eq_some_iff.mp z
      show (b1.β ++ [p])[n]? = some a
      rw [List.getElem?_append_left q]
      exact z
    have x2 : Ext b H b2 H1 := by
      refine ⟨⟨γ ++ [p], δ, ?_, e2, fun a ha => ?_, f2⟩, x.keep, x.there⟩
      · show b1.β ++ [p] = _
        rw [e1]
        exact List.append_assoc _ _ _
      · rcases List.mem_append.mp ha with z | z
        · exact f1 a z
        · rw [List.mem_singleton.mp z]; exact hp
    have s2 : SR X.K X.mg b2 (S ++ [.lst ds]) H1 := by
      refine ⟨by show (b1.β ++ [p]).length = _; rw [List.length_append, List.length_append, s1.len]; rfl, ?_, fun a ha => ?_, s1.own, fun n u a h1 h2 => ?_⟩
      · show (b1.β ++ [p]).Nodup
        rw [List.nodup_append]
        refine ⟨s1.nd, List.nodup_cons.mpr ⟨by simp, List.nodup_nil⟩, fun a ha c hc e => ?_⟩
        rw [List.mem_singleton.mp hc] at e
        exact hpβ (by rw [← e]; exact ha)
      · rcases List.mem_append.mp ha with z | z
        · exact s1.sub a z
        · rw [List.mem_singleton.mp z]; exact hpa
      · have h2' : (b1.β ++ [p])[n]? = some a := h2
        by_cases hn : n < S.length
        · rw [List.getElem?_append_left hn] at h1
          rw [List.getElem?_append_left (by rw [s1.len]; exact hn)] at h2'
          exact OR.weak hβ (fun _ z => z) (s1.obj n u a h1 h2')
        · have e : n = S.length := by
            obtain ⟨q, _⟩ := List.getElem?_eq_some_iff.mp h1
            rw [List.length_append, List.length_singleton] at q
            omega
          subst e
          rw [List.getElem?_concat_length] at h1
          rw [← s1.len, List.getElem?_concat_length] at h2'
          cases h1; cases h2'
          exact ⟨vs, hD, r.weak hβ fun _ z => z⟩
    refine h b2 H1 _ x2 s2 (.ref ?_)
    show (b1.β ++ [p])[S.length]? = some p
    rw [← s1.len, List.getElem?_concat_length]
/-- the hidden list grows -/
theorem SR.grow {p : Addr} {o : HO} (s : SR X.K X.mg b S H) (hpa : p ∈ b.av) (hpβ : p ∉ b.β) : SR X.K X.mg b S (L2.upd H p o) := by
  have hh : ∀ a u, H a = some u → a ∉ b.av → L2.upd H p o a = some u := fun a u e n => by
    rw [upd_ne (fun z => n (by rw [z]; exact hpa))]; exact e
  refine ⟨s.len, s.nd, s.sub, fun a ha => ?_, fun n u a h1 h2 => ?_⟩
  · by_cases z : a = p
    · rw [z, upd_same]; exact fun z => nomatch z
    · rw [upd_ne z]; exact s.own a ha
  · have ne : a ≠ p := fun z => hpβ (by rw [← z]; exact List.mem_of_getElem? h2)
    have q := s.obj n u a h1 h2
    cases u with
    | lst xs => obtain ⟨vs, k1, r⟩ := q; exact ⟨vs, (upd_ne ne).trans k1, r.heap hh⟩
    | dic kvs => obtain ⟨kvs', k1, k, r⟩ := q; exact ⟨kvs', (upd_ne ne).trans k1, k, r.heap hh⟩
    | ins C fs => obtain ⟨Ca, dx, fs', k1, m, k, r⟩ := q; exact ⟨Ca, dx, fs', (upd_ne ne).trans k1, m, k, r.heap hh⟩
theorem wipe_get (σ : L2.St) : ∀ (vs : List Nat) (j : Nat), (L2.wipe σ vs)[j]? = if j ∈ vs then (if j < σ.length then some none else none) else σ[j]?
  | [], j => by rw [if_neg (by simp)]; rfl
  | v :: vs, j => by
    unfold L2.wipe
    by_cases hj : v = j
    · subst hj
      rw [if_pos List.mem_cons_self]
      by_cases hl : v < σ.length
      · rw [if_pos hl, List.getElem?_set_self (by rw [L2.wipe_length]; exact hl)]
      · rw [if_neg hl, List.getElem?_eq_none (by rw [List.length_set, L2.wipe_length]; omega)]
    · rw [List.getElem?_set_ne hj, wipe_get σ vs j]
      by_cases hm : j ∈ vs
      · rw [if_pos hm, if_pos (List.mem_cons_of_mem _ hm)]
      · rw [if_neg hm, if_neg (fun z => (List.mem_cons.mp z).elim (fun e => hj e.symm) hm)]
theorem wipe_set {σ : L2.St} {vs : List Nat} {i : Nat} {x : Option V} (hi : i ∈ vs) : L2.wipe (σ.set i x) vs = L2.wipe σ vs := by
  apply List.ext_getElem?
  intro j
  rw [wipe_get, wipe_get, List.length_set]
  by_cases hj : j ∈ vs
  · rw [if_pos hj, if_pos hj]
  · rw [if_neg hj, if_neg hj, List.getElem?_set_ne (fun e => hj (by rw [← e]; exact hi))]
theorem wipe_wipe {σ : L2.St} {vs : List Nat} : L2.wipe (L2.wipe σ vs) vs = L2.wipe σ vs := by
  apply List.ext_getElem?
  intro j
  rw [wipe_get, wipe_get, L2.wipe_length]
  by_cases hj : j ∈ vs
  · rw [if_pos hj, if_pos hj]
  · rw [if_neg hj, if_neg hj]
/-- what a comprehension's target asks -/
def TgOk (X : Cx) (g : TG) (tg : D → Rho → Store → Res Rho) (own : List Nat) : Prop := ∀ (σ : L2.St) (b' : Bt) (H' : Hp) (ρ' : Rho) (S' : Store) (d : D) (v : V) (R : L2.St → Hp → Prop), At X b' ρ' S' (L2.wipe σ own) H' → RD X.K X.mg b' H' d v →
  (match tg d ρ' S' with
    | .ok ρ1 S1 => S1 = S' ∧ ∀ σ1, At X b' ρ1 S' σ1 H' → L2.wipe σ1 own = L2.wipe σ own → R σ1 H'
    | _ => False) → g v (L2.wipe σ own) H' R
/-- [elt for tg in iter if ..] -/
theorem lc_ok {m : Bool} {w : Nat} {src : Src} {J : L2.It} {g : TG} {tg : D → Rho → Store → Res Rho} {tt : M Bool} {te : M D} {own : List Nat} {Q : VK} {E : XK} (hw : w ≤ 16777216) (a0 : At X b ρ S σ H) (hJ : ItR X src J b H) (htg : TgOk X g tg own)
    (htS : ∀ d ρ' S' ρ1 S1, tg d ρ' S' = .ok ρ1 S1 → S1 = S')
    {r0 : Res (List D)} (h0 : r0 = lcGo src tg tt te (wipeR ρ own) w 0 [] S) (h : finD X b H Q E (r0.bind fun ds S2 => newL m ds S2)) (hx : ∀ x S2, r0 ≠ .exn x S2) :
    ∀ D, H D = none → ∃ Wi : Nat → Nat → Hp → Prop, (∃ m, Wi 0 m (upd H D (.lst []))) ∧ ∀ i m H, Wi i m H → (J.stop i H ∧ Q (.ref D) H) ∨ (J.go i H ∧ ∃ Nx : Hp → Prop, (∀ H', Nx H' → ∃ m', m' < m ∧ Wi (i + 1) m' H') ∧
      ∀ x H', J.yld i H x H' → g x (L2.wipe σ own) H' fun σ2 H2 => L2.wipe σ2 own = L2.wipe σ own ∧ tB X W0 tt σ2 H2 fun k H3 => if k = true then tE X W0 te σ2 H3 fun y H4 => ∃ acc, H4 D = some (.lst acc) ∧ acc.length < sizeLine ∧ Nx (upd H4 D (.lst (acc ++ [y]))) else Nx H3) := by
  intro p hp
  have xb : ∀ {s : Res (List D)}, r0 = s → s = .bad → False := fun e1 e2 => by
    rw [e1, e2] at h
    exact h
  refine ⟨fun i k H1 => ∃ b1 S1 acc vs, Ext b H b1 H1 ∧ p ∈ b1.av ∧ p ∉ b1.β ∧ SR X.K X.mg b1 S1 H1 ∧ H1 p = some (.lst vs) ∧ RDs X.K X.mg b1 H1 acc vs ∧ acc.length ≤ i ∧ i + k = w ∧
      r0 = lcGo src tg tt te (wipeR ρ own) k i acc S1, ⟨w, b.hide p, S, [], [], ext_hide hp, List.mem_append_right _ (List.mem_singleton.mpr rfl), fun z => a0.sr.nav hp (a0.sr.sub p z), a0.sr.hide hp, upd_same, .nil, Nat.le_refl _, by omega, h0⟩, ?_⟩
  rintro i k H1 ⟨b1, S1, acc, vs, x1, hpa, hpβ, s1, hD, r1, hl, hk, heq⟩
  have hJ1 := hJ b1 H1 S1 i x1 s1
  cases k with
  | zero => exact (xb heq rfl).elim
  | succ k =>
    cases e : src.at i S1 with
    | none => exact (xb heq (by simp only [lcGo, e])).elim
    | some o =>
      rw [e] at hJ1
      cases o with
      | none =>
        refine .inl ⟨hJ1, ?_⟩
        simp only [lcGo, e] at heq
        rw [heq] at h
        exact made_ok hp x1 hpa hpβ s1 hD r1 (a0.sr.nav hp) (finD_pfin newL_calm h)
      | some d =>
        obtain ⟨hgo, hy⟩ := hJ1
        simp only [lcGo, e] at heq
        refine .inr ⟨hgo, fun H2 => ∃ b2 S2 acc2 vs2, Ext b H b2 H2 ∧ p ∈ b2.av ∧ p ∉ b2.β ∧ SR X.K X.mg b2 S2 H2 ∧ H2 p = some (.lst vs2) ∧ RDs X.K X.mg b2 H2 acc2 vs2 ∧ acc2.length ≤ i + 1 ∧
            r0 = lcGo src tg tt te (wipeR ρ own) k (i + 1) acc2 S2, fun H2 hN => ?_, fun v H2 hyl => ?_⟩
        · obtain ⟨b2, S2, acc2, vs2, q1, q2, q3, q4, q5, q6, q7, q8⟩ := hN
          exact ⟨k, Nat.lt_succ_self _, b2, S2, acc2, vs2, q1, q2, q3, q4, q5, q6, q7, by omega, q8⟩
        · obtain ⟨x2, s2, rv⟩ := hy v H2 hyl
          have x02 := x1.trans x2
          have av2 : At X b1 (wipeR ρ own) S1 (L2.wipe σ own) H2 := ⟨s2, (a0.env.mono x02 a0.sr.sub).wipe own⟩
          refine htg σ b1 H2 (wipeR ρ own) S1 d v _ av2 rv ?_
          cases q1 : tg d (wipeR ρ own) S1 with
          | bad => exact (xb heq (by rw [q1]; rfl)).elim
          | exn x S2 => exact (xb heq (by rw [q1]; rfl)).elim
          | ok ρ1 S2 =>
            rw [q1] at heq
            simp only [Res.bindN_ok] at heq
            have eS := htS _ _ _ _ _ q1
            subst eS
            refine ⟨rfl, fun σ3 a3 wp => ⟨wp, b1, ρ1, S2, a3, ?_⟩⟩
            cases q2 : tt ρ1 S2 with
            | bad => exact (xb heq (by rw [q2]; rfl)).elim
            | exn x S3 => exact (xb heq (by rw [q2]; rfl)).elim
            | ok kk S3 =>
              rw [q2] at heq
              simp only [Res.bindN_ok] at heq
              intro b4 H4 x4 s4
              have a4 := a3.mono x4 s4
              have x14 := x2.trans x4
              have hp1 : H1 p ≠ none := by rw [hD]; exact fun z => nomatch z
              cases kk with
              | false =>
                rw [if_neg Bool.false_ne_true] at heq ⊢
                refine ⟨b4, S3, acc, vs, x1.trans x14, ?_, x14.nb hp1 hpβ, s4, x14.keep _ _ hD hpβ, r1.mono x14 s1.sub, by omega, heq⟩
                obtain ⟨_, δ, _, e2, _, _⟩ := x14.ex
                rw [e2]
                exact List.mem_append_left _ hpa
              | true =>
                rw [if_pos rfl] at heq ⊢
                refine ⟨b4, ρ1, S3, a4, ?_⟩
                cases q3 : te ρ1 S3 with
                | bad => exact (xb heq (by rw [q3]; rfl)).elim
                | exn x S4 => exact (xb heq (by rw [q3]; rfl)).elim
                | ok y S4 =>
                  rw [q3] at heq
                  simp only [Res.bindN_ok] at heq
                  intro b5 H5 u x5 s5 r5
                  have x15 := x14.trans x5
                  have hD5 : H5 p = some (.lst vs) := x15.keep _ _ hD hpβ
                  have hpa5 : p ∈ b5.av := by
                    obtain ⟨_, δ, _, e2, _, _⟩ := x15.ex
                    rw [e2]
                    exact List.mem_append_left _ hpa
                  have hpβ5 : p ∉ b5.β := x15.nb hp1 hpβ
                  have hh : ∀ a o, H5 a = some o → a ∉ b5.av → upd H5 p (.lst (vs ++ [u])) a = some o := fun a o e n => by
                    rw [upd_ne (fun z => n (by rw [z]; exact hpa5))]; exact e
                  refine ⟨vs, hD5, by rw [← r1.length, line24]; omega, b5, S4, acc ++ [y], vs ++ [u], ?_, hpa5, hpβ5, s5.grow hpa5 hpβ5, upd_same, ((r1.mono x15 s1.sub).append (.cons r5 .nil)).heap hh, by rw [List.length_append, List.length_singleton]; omega, heq⟩
                  have x05 := x1.trans x15
                  refine ⟨x05.ex, fun a o ha hn => ?_, fun a ha => ?_⟩
                  · rw [upd_ne (ne_of_none ha hp)]
                    exact x05.keep a o ha hn
                  · by_cases z : a = p
                    · rw [z, upd_same]; exact fun z => nomatch z
                    · rw [upd_ne z]; exact x05.there a ha
end
end DL
/-! DL9: comprehensions as rules; statements. -/
namespace DL
open PySem PySem.Spec L2
open PyProof.Rows hiding St
section
variable {X : Cx} {W : WX} {b b' : Bt} {ρ : Rho} {S S' : Store} {σ : L2.St} {H H' : Hp}

theorem tg_name {C : EvC} {i : Nat} {own : List Nat} (hi : i ∈ own) : TgOk X (gName i) (evG C (.name i)) own := by
  intro σ b' H' ρ' S' d v R a r h
  unfold evG at h
  exact h.2 _ ⟨a.sr, a.env.set r i⟩ (by rw [wipe_set hi, wipe_wipe])
def tNs : List Nat → TGs
  | [] => gNil
  | i :: is => gCons (gName i) (tNs is)
theorem gs_namesE (hN : X.N.Nodup) : ∀ {is : List Nat} {es : List Expr}, NamesAt X is es → PGs X es (tNs is)
  | [], [], _ => pgs_nil
  | i :: is, .Name x p :: es, ⟨h1, h2, h3, h4⟩ => pgs_cons (pg_name (i := i) hN h1 h2 h3) (gs_namesE hN h4)
  | [], _ :: _, h => h.elim
  | _ :: _, [], h => h.elim
theorem g_tupE {is : List Nat} {es : List Expr} {k : Nat} {pos : Pos} (hc : X.calm = true) (hN : X.N.Nodup) (h : NamesAt X is es) : PG X (.Tuple es k pos) (gSq X.K is.length (tNs is)) :=
  pg_sq hc (gs_namesE hN h) (names_len h).1 (names_len h).2
theorem tNs_ok {own : List Nat} : ∀ {is : List Nat} {ds : List D} {vs : List V} {ρ ρ1 : Rho} {σ1 : L2.St} {R : L2.St → Hp → Prop}, (∀ i ∈ is, i ∈ own) → RDs X.K X.mg b H ds vs → At X b ρ S σ1 H → setNs ρ is ds = some ρ1 → L2.wipe σ1 own = L2.wipe σ own →
    (∀ σ2, At X b ρ1 S σ2 H → L2.wipe σ2 own = L2.wipe σ own → R σ2 H) → tNs is vs σ1 H R
  | [], [], _, _, _, _, _, _, .nil, a, e, w, k => by cases e; exact ⟨rfl, k _ a w⟩
  | [], _ :: _, _, _, _, _, _, _, _, _, e, _, _ => by cases e
  | _ :: _, [], _, _, _, _, _, _, _, _, e, _, _ => by cases e
  | i :: is, d :: ds, _, _, _, _, _, hi, .cons r rs, a, e, w, k =>
    ⟨_, _, rfl, tNs_ok (fun j hj => hi j (List.mem_cons_of_mem _ hj)) rs ⟨a.sr, a.env.set r i⟩ e (by rw [wipe_set (hi i List.mem_cons_self)]; exact w) k⟩
theorem tg_tup {C : EvC} {is own : List Nat} (hi : ∀ i ∈ is, i ∈ own) : TgOk X (gSq X.K is.length (tNs is)) (evG C (.tup is)) own := by
  intro σ b' H' ρ' S' d v R a r h
  unfold evG at h
  split at h
  · rename_i y ρ1 S1 q0
    split at q0
    · rename_i ds q
      obtain ⟨ad, vs, rfl, hq, r1⟩ := seqOf_ok a.sr q r
      cases e : setNs ρ' is ds with
      | none => rw [e] at q0; cases q0
      | some ρ2 =>
        rw [e] at q0
        cases q0
        exact ⟨ad, vs, rfl, hq, by rw [← r1.length]; exact setNs_len e, tNs_ok hi r1 a e (wipe_wipe) fun σ2 a2 w => h.2 σ2 a2 w⟩
    · cases q0
  · exact h.elim
theorem name_S {C : EvC} {i : Nat} : ∀ d ρ' S' ρ1 S1, evG C (.name i) d ρ' S' = .ok ρ1 S1 → S1 = S' := by
  intro d ρ' S' ρ1 S1 h
  unfold evG at h
  cases h
  rfl
theorem tup_S {C : EvC} {is : List Nat} : ∀ d ρ' S' ρ1 S1, evG C (.tup is) d ρ' S' = .ok ρ1 S1 → S1 = S' := by
  intro d ρ' S' ρ1 S1 h
  unfold evG at h
  split at h
  · rename_i xs q0
    cases e : setNs ρ' is xs with
    | none => rw [e] at h; cases h
    | some r => rw [e] at h; cases h; rfl
  · cases h
theorem bindN_exn {α β : Type} {r : Res α} {f : α → Store → Res β} {x : Exn} {S : Store} (h : r.bindN f = .exn x S) : ∃ a S1, r = .ok a S1 ∧ f a S1 = .exn x S := by
  cases r with
  | ok a S1 => exact ⟨a, S1, rfl, h⟩
  | exn y S1 => cases h
  | bad => cases h
theorem lcGo_exn {src : Src} {tg : D → Rho → Store → Res Rho} {tt : M Bool} {te : M D} {ρ : Rho} {x : Exn} {S2 : Store} : ∀ {k i : Nat} {acc : List D} {S : Store}, lcGo src tg tt te ρ k i acc S ≠ .exn x S2
  | 0, _, _, _ => fun h => by cases h
  | k + 1, i, acc, S => fun h => by
    unfold lcGo at h
    split at h
    · cases h
    · cases h
    · obtain ⟨_, _, _, h⟩ := bindN_exn h
      obtain ⟨k, _, _, h⟩ := bindN_exn h
      split at h
      · obtain ⟨_, _, _, h⟩ := bindN_exn h
        exact lcGo_exn h
      · exact lcGo_exn h
/-- what a comprehension is, told -/
theorem tlc_ok {C : EvC} {m : Bool} {elt : Ex} {tg : Tg} {it : Iq} {ifs : Exs} {own : List Nat} {g : TG} {Q : VK} (hw : C.w ≤ 16777216) (htg : TgOk X g (evG C tg) own) (htS : ∀ d ρ' S' ρ1 S1, evG C tg d ρ' S' = .ok ρ1 S1 → S1 = S')
    (h : tE X W (ev C (.lc m elt tg it ifs own)) σ H Q) : tLc (tI X W (evI C it)) g (tB X W0 (evTs C ifs)) (tE X W0 (ev C elt)) own σ H Q := by
  obtain ⟨b, ρ, S, a0, h⟩ := h
  unfold ev at h
  refine ⟨b, ρ, S, a0, ?_⟩
  cases q : evI C it ρ S with
  | bad => rw [q] at h; exact h
  | exn x S1 => rw [q] at h; exact h
  | ok src S1 =>
    rw [q] at h
    simp only [Res.bind_ok] at h
    intro b1 H1 J x1 s1 hJ
    exact lc_ok hw (a0.mono x1 s1) hJ htg htS rfl (h.mono x1) (fun _ _ => lcGo_exn)
abbrev ForBlk (X : Cx) (scope : Scope) (P : Cx → Prop) : Prop := ∀ (s : Shared) (H : Hp) (C : Addr) (cl : List (Str × Addr)) (fp : List Addr), P (X.blk s H scope (compEnvC scope cl C X.env) fp)
theorem r_lc {C : EvC} {m : Bool} {elt : Ex} {tg : Tg} {it : Iq} {ifs : Exs} {own : List (Str × Nat)} {g : TG} {pelt ptg piter : Expr} {pifs : List Expr} {scope : Scope} {pos : Pos} (hw : C.w ≤ 16777216) (hc : X.calm = true) (hN : X.N.Nodup) (ok : BlkOk X.N X.env.scope scope own)
    (htg : TgOk X g (evG C tg) (own.map (·.2))) (htS : ∀ d ρ' S' ρ1 S1, evG C tg d ρ' S' = .ok ρ1 S1 → S1 = S') (hi : PI X ptg piter (tI X W (evI C it))) (hg : ForBlk X scope fun Y => PG Y ptg g) (ht : ForBlk X scope fun Y => PTs Y pifs (tB Y W0 (evTs C ifs)))
    (he : ForBlk X scope fun Y => PE Y pelt (tE Y W0 (ev C elt))) (hs : ∀ x, foldedSetIterable piter X.env x = pure x) : PE X (.ListComp pelt [⟨ptg, piter, pifs, 0⟩] scope pos) (tE X W (ev C (.lc m elt tg it ifs (own.map (·.2))))) :=
  (pe_lc hc hN hi ok hg (fun s H C cl fp => ht s H C cl fp) (fun s H C cl fp => he s H C cl fp) hs).imp' fun σ H Q h => tlc_ok hw htg htS h

/-! ### statements -/
/-- what is wanted behind a statement -/
def finO (X : Cx) (b : Bt) (H : Hp) (D : Ends) (W : WX) : Out → Prop
  | .nx ρ S => ∀ b' σ' H', Ext b H b' H' → At X b' ρ S σ' H' → D.nx σ' H'
  | .ct ρ S => ∀ b' σ' H', Ext b H b' H' → At X b' ρ S σ' H' → D.ct σ' H'
  | .bk ρ S => ∀ b' σ' H', Ext b H b' H' → At X b' ρ S σ' H' → D.bk σ' H'
  | .rt d S => ∀ b' H' v, Ext b H b' H' → SR X.K X.mg b' S H' → RD X.K X.mg b' H' d v → D.rt v H'
  | .exn x ρ S => ∀ b' σ' H' cls dd, Ext b H b' H' → At X b' ρ S σ' H' → RX X b' H' x cls dd → W cls dd σ' H'
  | .bad => False
def tS (X : Cx) (W : WX) (m : Rho → Store → Out) : TS := fun D σ H => ∃ b ρ S, At X b ρ S σ H ∧ finO X b H D W (m ρ S)
theorem finO.mono {D : Ends} {o : Out} (e : Ext b H b' H') (h : finO X b H D W o) : finO X b' H' D W o := by
  cases o with
  | nx ρ S => exact fun b2 σ2 H2 y a => h b2 σ2 H2 (e.trans y) a
  | ct ρ S => exact fun b2 σ2 H2 y a => h b2 σ2 H2 (e.trans y) a
  | bk ρ S => exact fun b2 σ2 H2 y a => h b2 σ2 H2 (e.trans y) a
  | rt d S => exact fun b2 H2 v y s r => h b2 H2 v (e.trans y) s r
  | exn x ρ S => exact fun b2 σ2 H2 c d y a r => h b2 σ2 H2 c d (e.trans y) a r
  | bad => exact h
/-- an expression's exception is the statement's -/
theorem exnO {D : Ends} {x : Exn} {S1 : Store} (a : At X b ρ S σ H) (h : finO X b H D W (.exn x ρ S1)) : exD X b H (fun c d H' => W c d σ H') x S1 :=
  fun b' H' c d y s r => h b' σ H' c d y (a.mono y s) r
theorem asO {D : Ends} {m : M DL.D} {f : DL.D → Store → Out} {Q : VK} (a : At X b ρ S σ H) (h : finO X b H D W (bindO ρ (m ρ S) f))
    (k : ∀ b' H' v d S', Ext b H b' H' → At X b' ρ S' σ H' → RD X.K X.mg b' H' d v → finO X b' H' D W (f d S') → Q v H') : finD X b H Q (fun c d H' => W c d σ H') (m ρ S) := by
  cases q : m ρ S with
  | ok d S1 =>
    rw [q] at h
    exact fun b' H' v y s r => k b' H' v d S1 y (a.mono y s) r (h.mono y)
  | exn x S1 => rw [q] at h; exact exnO a h
  | bad => rw [q] at h; exact h
theorem asB {D : Ends} {m : M Bool} {f : Bool → Store → Out} {Q : Bool → Hp → Prop} (a : At X b ρ S σ H) (h : finO X b H D W (bindO ρ (m ρ S) f))
    (k : ∀ b' H' d S', Ext b H b' H' → At X b' ρ S' σ H' → finO X b' H' D W (f d S') → Q d H') : finB X b H Q (fun c d H' => W c d σ H') (m ρ S) := by
  cases q : m ρ S with
  | ok d S1 =>
    rw [q] at h
    exact fun b' H' y s => k b' H' d S1 y (a.mono y s) (h.mono y)
  | exn x S1 => rw [q] at h; exact exnO a h
  | bad => rw [q] at h; exact h
theorem asG {D : Ends} {r : Res Rho} {f : Rho → Store → Out} {Q : L2.St → Hp → Prop} (a : At X b ρ S σ H) (h : finO X b H D W (bindO ρ r f))
    (k : ∀ b' σ' H' ρ' S', Ext b H b' H' → At X b' ρ' S' σ' H' → finO X b' H' D W (f ρ' S') → Q σ' H') : finG X b H Q (fun c d H' => W c d σ H') σ r := by
  cases r with
  | ok ρ1 S1 => exact fun b' σ' H' y a' => k b' σ' H' ρ1 S1 y a' (h.mono y)
  | exn x S1 => exact exnO a h
  | bad => exact h
section
variable {C : EvC}
theorem s_asg {t : Tg} {e : Ex} {tg pe : Expr} {pos : Pos} (he : PE X pe (tE X W (ev C e))) (hg : PG X tg (tG X W (evG C t))) (hs : swapsWithSole [tg] pe pos.line X.env = pure false) (hw : swappedStores [tg] pe X.env = pure none)
    (h1 : (assignEach [tg] X.env).map (·.2) = [assign tg X.env]) : PS X (.Assign [tg] pe pos) (tS X W (evS C (.asg t e))) := by
  refine (ps_asg he hg hs hw h1).imp' fun D σ H h => ?_
  obtain ⟨b, ρ, S, a0, h⟩ := h
  simp only [evS] at h
  exact ⟨b, ρ, S, a0, asO a0 h fun b1 H1 v d S1 x1 a1 r1 h1 => ⟨b1, ρ, S1, d, a1, r1, asG a1 h1 fun b2 σ2 H2 ρ2 S2 x2 a2 h2 => h2 b2 σ2 H2 .refl a2⟩⟩
theorem s_setLc {i : Nat} {y : Str} {py : Pos} {m : Bool} {elt : Ex} {tg : Tg} {it : Iq} {ifs : Exs} {own : List (Str × Nat)} {g : TG} {pelt ptg piter : Expr} {pifs : List Expr} {scope : Scope} {pos spos : Pos} (hw : C.w ≤ 16777216) (hc : X.calm = true) (hN : X.N.Nodup) (hy : X.N[i]? = some y) (hyl : X.env.scope.names.lookup y = some .local)
    (hsw : swapsWith (.ListComp pelt [⟨ptg, piter, pifs, 0⟩] scope pos) (some (.Name y py)) spos.line X.env = pure true) (ok : BlkOk X.N X.env.scope scope own)
    (htg : TgOk X g (evG C tg) (own.map (·.2))) (htS : ∀ d ρ' S' ρ1 S1, evG C tg d ρ' S' = .ok ρ1 S1 → S1 = S') (hi : PI X ptg piter (tI X W (evI C it))) (hg : ForBlk X scope fun Y => PG Y ptg g) (ht : ForBlk X scope fun Y => PTs Y pifs (tB Y W0 (evTs C ifs)))
    (he : ForBlk X scope fun Y => PE Y pelt (tE Y W0 (ev C elt))) (hs : ∀ x, foldedSetIterable piter X.env x = pure x) : PS X (.Assign [.Name y py] (.ListComp pelt [⟨ptg, piter, pifs, 0⟩] scope pos) spos) (tS X W (evS C (.asg (.name i) (.lc m elt tg it ifs (own.map (·.2)))))) := by
  refine (ps_setLc (tt := tB X W0 (evTs C ifs)) (te := tE X W0 (ev C elt)) hc hN hy hyl hsw hi ok hg (fun s H C cl fp => ht s H C cl fp) (fun s H C cl fp => he s H C cl fp) hs).imp' fun D σ H h => ?_
  obtain ⟨b, ρ, S, a0, h⟩ := h
  rw [evS.eq_def] at h
  refine tlc_ok hw htg htS ⟨b, ρ, S, a0, asO a0 h fun b1 H1 v d S1 x1 a1 r1 h1 => ?_⟩
  unfold evG at h1
  exact h1 b1 _ H1 .refl ⟨a1.sr, a1.env.set r1 i⟩
theorem s_expr {e : Ex} {pe : Expr} {pos : Pos} (he : PE X pe (tE X W (ev C e))) (hs : swapsWith pe none pos.line X.env = pure false) : PS X (.Expr pe pos) (tS X W (evS C (.expr e))) := by
  refine (ps_expr he hs).imp' fun D σ H h => ?_
  obtain ⟨b, ρ, S, a0, h⟩ := h
  simp only [evS] at h
  exact ⟨b, ρ, S, a0, asO a0 h fun b1 H1 v d S1 x1 a1 r1 h1 => h1 b1 σ H1 .refl a1⟩
theorem s_ret {e : Ex} {pe : Expr} {pos : Pos} (he : PE X pe (tE X W (ev C e))) : PS X (.Return (some pe) pos) (tS X W (evS C (.ret e))) := by
  refine (ps_ret he).imp' fun D σ H h => ?_
  obtain ⟨b, ρ, S, a0, h⟩ := h
  simp only [evS] at h
  exact ⟨b, ρ, S, a0, asO a0 h fun b1 H1 v d S1 x1 a1 r1 h1 => h1 b1 H1 v .refl a1.sr r1⟩
theorem s_retN {pos : Pos} : PS X (.Return none pos) (tS X W (evS C (.ret (.con .non)))) := by
  refine ps_retN.imp' fun D σ H h => ?_
  obtain ⟨b, ρ, S, a0, h⟩ := h
  simp only [evS, ev, bindO_ok] at h
  exact h b H .non .refl a0.sr .non
theorem s_pass {pos : Pos} : PS X (.Pass pos) (tS X W (evS C .pass)) := ps_pass.imp' fun D σ H h => by
  obtain ⟨b, ρ, S, a0, h⟩ := h
  simp only [evS] at h
  exact h b σ H .refl a0
theorem s_brk {pos : Pos} : PS X (.Break pos) (tS X W (evS C .brk)) := ps_break.imp' fun D σ H h => by
  obtain ⟨b, ρ, S, a0, h⟩ := h
  simp only [evS] at h
  exact h b σ H .refl a0
theorem s_cont {pos : Pos} : PS X (.Continue pos) (tS X W (evS C .cont)) := ps_continue.imp' fun D σ H h => by
  obtain ⟨b, ρ, S, a0, h⟩ := h
  simp only [evS] at h
  exact h b σ H .refl a0
theorem s_if {c : Ex} {u v : Sms} {pc : Expr} {pu pv : List Stmt} {pos : Pos} (hc : PT X pc (tB X W (evT C c))) (hu : PSs X pu (tS X W (evB C u))) (hv : PSs X pv (tS X W (evB C v))) : PS X (.If pc pu pv pos) (tS X W (evS C (.ite c u v))) := by
  refine (ps_if hc hu hv).imp' fun D σ H h => ?_
  obtain ⟨b, ρ, S, a0, h⟩ := h
  simp only [evS] at h
  refine ⟨b, ρ, S, a0, asB a0 h fun b1 H1 k S1 x1 a1 h1 => ?_⟩
  cases k with
  | true => exact ⟨b1, ρ, S1, a1, h1⟩
  | false => exact ⟨b1, ρ, S1, a1, h1⟩
theorem s_while {c : Ex} {u : Sms} {pc : Expr} {pu : List Stmt} {pos : Pos} (hp : PassesOwn (model X.prog X.w) X.A X.env X.xe) (hc : PT X pc (tB X W (evT C c))) (hu : PSs X pu (tS X W (evB C u))) : PS X (.While pc pu [] pos) (tS X W (evS C (.while_ c u))) := by
  refine (ps_while hp hc hu).imp' fun D σ H h => ?_
  obtain ⟨b, ρ, S, a0, h⟩ := h
  simp only [evS] at h
  refine ⟨fun m σ H => tS X W (whileGo (evT C c) (evB C u) m) D σ H, ⟨C.w, b, ρ, S, a0, h⟩, ?_⟩
  rintro m σ1 H1 ⟨b1, ρ1, S1, a1, h1⟩
  cases m with
  | zero => exact h1.elim
  | succ m =>
    unfold whileGo at h1
    refine ⟨b1, ρ1, S1, a1, ?_⟩
    cases q : evT C c ρ1 S1 with
    | bad => rw [q] at h1; exact h1
    | exn x S2 => rw [q] at h1; exact exnO a1 h1
    | ok k S2 =>
      rw [q] at h1
      intro b2 H2 x2 s2
      have a2 := a1.mono x2 s2
      cases k with
      | false =>
        rw [if_neg Bool.false_ne_true]
        exact h1 b2 σ1 H2 x2 a2
      | true =>
        rw [if_pos rfl]
        simp only at h1
        refine ⟨fun σ H => tS X W (whileGo (evT C c) (evB C u) m) D σ H, fun σ' H' h => ⟨m, Nat.lt_succ_self _, h⟩, b2, ρ1, S2, a2, ?_⟩
        replace h1 := h1.mono x2
        cases q3 : evB C u ρ1 S2 with
        | nx ρ3 S3 => rw [q3] at h1; exact fun b3 σ3 H3 x3 a3 => ⟨b3, ρ3, S3, a3, h1.mono x3⟩
        | ct ρ3 S3 => rw [q3] at h1; exact fun b3 σ3 H3 x3 a3 => ⟨b3, ρ3, S3, a3, h1.mono x3⟩
        | bk ρ3 S3 => rw [q3] at h1; exact h1
        | rt d S3 => rw [q3] at h1; exact h1
        | exn x ρ3 S3 => rw [q3] at h1; exact h1
        | bad => rw [q3] at h1; exact h1
theorem s_for {t : Tg} {it : Iq} {u : Sms} {ptg piter : Expr} {pu : List Stmt} {pos : Pos} (hp : PassesOwn (model X.prog X.w) X.A X.env X.xe) (hc : X.calm = true) (hi : PI X ptg piter (tI X W (evI C it))) (hg : PG X ptg (tG X W (evG C t))) (hu : PSs X pu (tS X W (evB C u)))
    (hs : ∀ x, foldedSetIterable piter X.env x = pure x) : PS X (.For ptg piter pu [] pos) (tS X W (evS C (.for_ t it u))) := by
  refine (ps_for hp hc hi hg hu hs).imp' fun D σ H h => ?_
  obtain ⟨b, ρ, S, a0, h⟩ := h
  simp only [evS] at h
  refine ⟨b, ρ, S, a0, ?_⟩
  cases q : evI C it ρ S with
  | bad => rw [q] at h; exact h
  | exn x S1 => rw [q] at h; exact exnO a0 h
  | ok src S1 =>
    rw [q] at h
    simp only [bindO_ok] at h
    intro b1 H1 J x1 s1 hJ
    refine ⟨fun i m σ H => ∃ b2 ρ2 S2, Ext b1 H1 b2 H ∧ At X b2 ρ2 S2 σ H ∧ finO X b2 H D W (forGo src (evG C t) (evB C u) m i ρ2 S2), ⟨C.w, b1, ρ, S1, .refl, a0.mono x1 s1, h.mono x1⟩, ?_⟩
    rintro i m σ2 H2 ⟨b2, ρ2, S2, x2, a2, h2⟩
    have hJ2 := hJ b2 H2 S2 i x2 a2.sr
    cases m with
    | zero => exact h2.elim
    | succ m =>
      unfold forGo at h2
      cases e : src.at i S2 with
      | none => rw [e] at h2; exact h2.elim
      | some o =>
        rw [e] at h2 hJ2
        cases o with
        | none => exact .inl ⟨hJ2, h2 b2 σ2 H2 .refl a2⟩
        | some d =>
          obtain ⟨hgo, hy⟩ := hJ2
          refine .inr ⟨hgo, fun σ H => ∃ b3 ρ3 S3, Ext b1 H1 b3 H ∧ At X b3 ρ3 S3 σ H ∧ finO X b3 H D W (forGo src (evG C t) (evB C u) m (i + 1) ρ3 S3), fun σ' H' h => ⟨m, Nat.lt_succ_self _, h⟩, fun v H3 hyl => ?_⟩
          obtain ⟨x3, s3, r3⟩ := hy v H3 hyl
          have a3 := a2.mono x3 s3
          refine ⟨b2, ρ2, S2, d, a3, r3, ?_⟩
          simp only at h2
          replace h2 := h2.mono x3
          cases q4 : evG C t d ρ2 S2 with
          | bad => rw [q4] at h2; exact h2
          | exn x S4 => rw [q4] at h2; exact exnO a3 h2
          | ok ρ4 S4 =>
            rw [q4] at h2
            intro b4 σ4 H4 x4 a4
            refine ⟨b4, ρ4, S4, a4, ?_⟩
            simp only at h2
            replace h2 := h2.mono x4
            have x14 := (x2.trans x3).trans x4
            cases q5 : evB C u ρ4 S4 with
            | nx ρ5 S5 => rw [q5] at h2; exact fun b5 σ5 H5 x5 a5 => ⟨b5, ρ5, S5, x14.trans x5, a5, h2.mono x5⟩
            | ct ρ5 S5 => rw [q5] at h2; exact fun b5 σ5 H5 x5 a5 => ⟨b5, ρ5, S5, x14.trans x5, a5, h2.mono x5⟩
            | bk ρ5 S5 => rw [q5] at h2; exact h2
            | rt d S5 => rw [q5] at h2; exact h2
            | exn x ρ5 S5 => rw [q5] at h2; exact h2
            | bad => rw [q5] at h2; exact h2
theorem s_par {i j : Nat} {x y : Str} {e f : Ex} {pa pb : Expr} {px py pt : Pos} {kt k2 pt2} {pos : Pos} (hc : X.calm = true) (hN : X.N.Nodup) (hi : X.N[i]? = some x) (hj : X.N[j]? = some y) (hij : i ≠ j)
    (hx : X.env.scope.names.lookup x = some .local) (hy : X.env.scope.names.lookup y = some .local) (ha : PA X [pa, pb] (tA X W (evs C (.cons e (.cons f .nil)))))
    (hw : swappedStores [.Tuple [.Name x px, .Name y py] kt pt] (.Tuple [pa, pb] k2 pt2) X.env = pure (some [x, y]))
    (hs : swapsWithSole [.Tuple [.Name x px, .Name y py] kt pt] (.Tuple [pa, pb] k2 pt2) pos.line X.env = pure false) :
    PS X (.Assign [.Tuple [.Name x px, .Name y py] kt pt] (.Tuple [pa, pb] k2 pt2) pos) (tS X W (evS C (.par i j e f))) := by
  refine (ps_par hc hN hi hj hij hx hy ha hw hs).imp' fun D σ H h => ?_
  obtain ⟨b, ρ, S, a0, h⟩ := h
  simp only [evS] at h
  refine ⟨b, ρ, S, a0, ?_⟩
  simp only [evs]
  cases q : ev C e ρ S with
  | bad => rw [q] at h; exact h
  | exn z S1 => rw [q] at h; exact exnO a0 h
  | ok d S1 =>
    rw [q] at h
    simp only [bindO_ok, Res.bind_ok] at h ⊢
    cases q2 : ev C f ρ S1 with
    | bad => rw [q2] at h; exact h
    | exn z S2 => rw [q2] at h; exact exnO a0 h
    | ok d2 S2 =>
      rw [q2] at h
      simp only [bindO_ok, Res.bind_ok] at h ⊢
      intro b1 H1 vs x1 s1 r1
      cases r1 with
      | @cons _ v _ _ r1 rs =>
        cases rs with
        | @cons _ w _ _ r2 rs =>
          cases rs
          refine ⟨v, w, rfl, h b1 _ H1 x1 ?_⟩
          have a1 := a0.mono x1 s1
          exact ⟨a1.sr, (a1.env.set r1 i).set r2 j⟩
theorem s_nil : PSs X [] (tS X W (evB C .nil)) := pss_nil.imp' fun D σ H h => by
  obtain ⟨b, ρ, S, a0, h⟩ := h
  simp only [evB] at h
  exact h b σ H .refl a0
theorem s_cons {s : Sm} {r : Sms} {ps : Stmt} {pr : List Stmt} (hs : PS X ps (tS X W (evS C s))) (hr : PSs X pr (tS X W (evB C r))) : PSs X (ps :: pr) (tS X W (evB C (.cons s r))) := by
  refine (pss_cons hs hr).imp' fun D σ H h => ?_
  obtain ⟨b, ρ, S, a0, h⟩ := h
  simp only [evB] at h
  refine ⟨b, ρ, S, a0, ?_⟩
  cases q : evS C s ρ S with
  | nx ρ1 S1 => rw [q] at h; exact fun b1 σ1 H1 x1 a1 => ⟨b1, ρ1, S1, a1, h.mono x1⟩
  | ct ρ1 S1 => rw [q] at h; exact h
  | bk ρ1 S1 => rw [q] at h; exact h
  | rt d S1 => rw [q] at h; exact h
  | exn x ρ1 S1 => rw [q] at h; exact h
  | bad => rw [q] at h; exact h
end
end
end DL
/-! DL10: calls, raise. -/
namespace DL
open PySem PySem.Spec L2
open PyProof.Rows hiding St

/-- a def's promise: it does as the evaluator says -/
def spG (K : PySem.W.Frag) (mg : Str → Option Value) (call : Nat → List D → Store → Res D) (f : Nat) (n : Nat) : Sp := fun vs H Q E => vs.length = n ∧ ∃ b S ds, SR K mg b S H ∧ RDs K mg b H ds vs ∧ finD0 K mg b H Q E (call f ds S)
theorem Vals.get {i : Nat} : ∀ {vs : List V} {us : List Value}, Vals vs us → ∀ i : Nat, (vs[i]? = none ∧ us[i]? = none) ∨ ∃ v u, vs[i]? = some v ∧ us[i]? = some u ∧ RelV v u
  | _, _, .nil, i => .inl ⟨by simp, by simp⟩
  | _, _, .cons h r, 0 => .inr ⟨_, _, rfl, rfl, h⟩
  | _, _, .cons h r, i + 1 => by
    have q := Vals.get (i := i) r i
    simpa using q
theorem Vals.perm {vs : List V} {us : List Value} (r : Vals vs us) : ∀ perm : List Nat, Vals (perm.filterMap fun j => vs[j]?) (perm.filterMap fun j => us[j]?)
  | [] => .nil
  | j :: perm => by
    have q := Vals.perm r perm
    rcases Vals.get (i := j) r j with ⟨h1, h2⟩ | ⟨v, u, h1, h2, h3⟩
    · rw [List.filterMap_cons, List.filterMap_cons, h1, h2]; exact q
    · rw [List.filterMap_cons, List.filterMap_cons, h1, h2]; exact .cons h3 q
section
variable {X : Cx} {W : WX} {b b' : Bt} {ρ : Rho} {S S' : Store} {σ : L2.St} {H H' : Hp}
theorem RDs.perm {ds : List D} {vs : List V} (r : RDs X.K X.mg b H ds vs) : ∀ perm : List Nat, RDs X.K X.mg b H (perm.filterMap fun j => ds[j]?) (perm.filterMap fun j => vs[j]?)
  | [] => .nil
  | j :: perm => by
    have q := RDs.perm r perm
    cases e : ds[j]? with
    | none =>
      have e2 : vs[j]? = none := by
        rw [List.getElem?_eq_none_iff] at e ⊢
        rw [← r.length]; exact e
      rw [List.filterMap_cons, List.filterMap_cons, e, e2]; exact q
    | some d =>
      obtain ⟨v, e2, h⟩ := r.get e
      rw [List.filterMap_cons, List.filterMap_cons, e, e2]; exact .cons h q
/-- how keywords bind -/
def KwOk (K : PySem.W.Frag) (fd : FuncData) (ps : List Str) (n : Nat) (ks : List Str) (perm : List Nat) : Prop :=
  ∀ (s : Shared) (us ws : List Value), K.In s.heap → us.length = n → ws.length = ks.length → BindsTo s fd ⟨us, ks.zip ws⟩ (ps.zip (perm.filterMap fun j => (us ++ ws)[j]?))
/-- a def that may be called here -/
structure CallOk (X : Cx) (C : EvC) (i : Nat) (f : Str) (ps : List Str) (kw : List (Nat × List Str × List Nat)) : Prop where
  ex : ∃ (k : Nat) (addr : Addr) (fd : FuncData), FnOk X.prog X.w X.K X.mg X.base (L2.CX X.prog X.w) k addr fd ps (spG X.K X.mg C.call i ps.length) ∧ Room k X.A ∧ X.mg f = some (.ref addr) ∧ PySem.W.keepIn X.K (.ref addr) = true ∧ Binds X.K fd ps [] ∧
    ∀ q ∈ kw, KwOk X.K fd ps q.1 q.2.1 q.2.2 ∧ q.1 + q.2.1.length = q.2.2.length ∧ q.2.2.length = ps.length ∧ ∀ j ∈ q.2.2, j < ps.length
  dbg : (f == ("__debug__" : Str)) = false
variable {C : EvC}
theorem evs_RD {es : Exs} {n : Nat} {Q : List V → Hp → Prop} {E : XK} (a0 : At X b ρ S σ H) {f : List D → Store → Res D} {Q' : VK} (h : finD X b H Q' E ((evs C es ρ S).bind f)) (hl : es.len = n)
    (k : ∀ b' H' vs ds S', Ext b H b' H' → At X b' ρ S' σ H' → RDs X.K X.mg b' H' ds vs → vs.length = n → finD X b' H' Q' E (f ds S') → Q vs H') : finDs X b H Q E (evs C es ρ S) := by
  cases q : evs C es ρ S with
  | ok ds S1 =>
    rw [q] at h
    intro b1 H1 vs x1 s1 r1
    exact k b1 H1 vs ds S1 x1 (a0.mono x1 s1) r1 (by rw [← r1.length, evs_len _ _ _ _ _ _ q]; exact hl) (h.mono x1)
  | exn x S1 => rw [q] at h; exact h
  | bad => rw [q] at h; exact h
theorem r_call {i : Nat} {f : Str} {ps : List Str} {kw : List (Nat × List Str × List Nat)} {es : Exs} {pe : Expr} {pes : List Expr} {p pos : Pos} (c : CallOk X C i f ps kw) (tk : L2.Takes X W) (hg : Gl X f) (hl : es.len = ps.length) (ha : PA X (pe :: pes) (tA X W (evs C es)))
    (he : starEach (pe :: pes) X.env = (false, eval pe X.env) :: starEach pes X.env) (hpl : ((backTo pos (starEach pes X.env)).any fun x => x.1) = false) : PE X (.Call (.Name f p) (pe :: pes) [] pos) (tE X W (ev C (.call i es))) := by
  obtain ⟨⟨k, addr, fd, F, hr, hm, hk, hb, _⟩, hd⟩ := c
  refine (L2.pe_callS F hr hg hm hk hb (fun σ => L2.passAt tk σ) ha hd he hpl).imp' fun σ H Q h => ?_
  obtain ⟨b, ρ, S, a0, h⟩ := h
  unfold ev at h
  exact ⟨b, ρ, S, a0, evs_RD a0 h hl fun b1 H1 vs ds S1 x1 a1 r1 l1 h1 => ⟨l1, b1, S1, ds, a1.sr, r1, h1⟩⟩
theorem r_call0 {i : Nat} {f : Str} {ps : List Str} {kw : List (Nat × List Str × List Nat)} {p pos : Pos} (c : CallOk X C i f ps kw) (tk : L2.Takes X W) (hg : Gl X f) (hl : ps.length = 0) : PE X (.Call (.Name f p) [] [] pos) (tE X W (ev C (.call i .nil))) := by
  obtain ⟨⟨k, addr, fd, F, hr, hm, hk, hb, _⟩, hd⟩ := c
  refine ⟨fun pins s σ H Q I h => ?_⟩
  obtain ⟨b, ρ, S, a0, h⟩ := h
  unfold ev evs at h
  refine wpAny_Call_Name_kw (ld_glob I hg hm ?_ hd)
  refine PySem.W.callWith_K0 I.kIn hk ?_
  exact L2.run_fnS F hr hb (L2.passAt tk σ) I .nil (⟨hl.symm, b, S, [], a0.sr, .nil, h⟩ : spG X.K X.mg C.call i ps.length [] H Q (WE W σ))
/-- keyword arguments -/
theorem run_kw {f : Nat} {ps ks : List Str} {n k : Nat} {perm : List Nat} {addr : Addr} {fd : FuncData} {pins : List (Addr × Obj)} {s : Shared} {us ws : List Value} {vs zs : List V} {ds : List D} {Q : VK} {E : XK}
    (F : FnOk X.prog X.w X.K X.mg X.base (L2.CX X.prog X.w) k addr fd ps (spG X.K X.mg C.call f ps.length)) (hr : Room k X.A) (hb : KwOk X.K fd ps n ks perm) (hp : n + ks.length = perm.length) (hp2 : perm.length = ps.length) (hj : ∀ j ∈ perm, j < ps.length) (hx : L2.PassesAt (L2.CX X.prog X.w) X σ E)
    (I : Inv X pins σ H s) (r : Vals vs us) (rz : Vals zs ws) (lu : us.length = n) (lw : ws.length = ks.length) (sr : SR X.K X.mg b S H) (rd : RDs X.K X.mg b H ds (vs ++ zs)) (h : finD X b H Q E (C.call f (perm.filterMap fun j => ds[j]?) S)) :
    wpAny (model X.prog X.w) X.A (call (.ref addr) us (ks.zip ws)) (EP X pins σ Q) X.xe s := by
  have rv : Vals (vs ++ zs) (us ++ ws) := r.append rz
  have r2 := Vals.perm rv perm
  have lfull : ∀ p2 : List Nat, (∀ j ∈ p2, j < ps.length) → (p2.filterMap fun j => (vs ++ zs)[j]?).length = p2.length := by
    intro p2
    induction p2 with
    | nil => intro _; rfl
    | cons j p2 ih =>
      intro hq
      have l1 : (vs ++ zs).length = ps.length := by
        rw [rv.length, List.length_append, lu, lw, hp, hp2]
      have e : (vs ++ zs)[j]? = some ((vs ++ zs)[j]'(by rw [l1]; exact hq j List.mem_cons_self)) := List.getElem?_eq_getElem _
      rw [List.filterMap_cons, e]
      exact congrArg Nat.succ (ih fun i hi => hq i (List.mem_cons_of_mem _ hi))
  refine wpAny_call (codeAny_mono (F.run X.A X.stack s H ⟨us, ks.zip ws⟩ (perm.filterMap fun j => (us ++ ws)[j]?) (perm.filterMap fun j => (vs ++ zs)[j]?) Q E hr I.env0 (hb s us ws I.kIn lu lw) r2 ⟨(lfull perm hj).trans hp2, b, S, _, sr, RDs.perm rd perm, h⟩) fun r s' hq => ?_)
  cases r with
  | error e => exact hx pins H s e s' I hq
  | ok fl =>
    cases fl with
    | ret u => exact I.after hq
    | next => exact False.elim hq
    | brk => exact False.elim hq
    | cont => exact False.elim hq
/-- an argument list of keywords behind others -/
def Exs.app : Exs → Exs → Exs
  | .nil, r => r
  | .cons e es, r => .cons e (es.app r)
theorem evs_app : ∀ (a c : Exs) (ρ : Rho) (S : Store), evs C (a.app c) ρ S = (evs C a ρ S).bind fun xs S1 => (evs C c ρ S1).bind fun ys S2 => .ok (xs ++ ys) S2
  | .nil, c, ρ, S => by
    simp only [Exs.app, evs, Res.bind_ok, List.nil_append]
    cases evs C c ρ S <;> rfl
  | .cons e es, c, ρ, S => by
    simp only [Exs.app, evs, Res.bind_assoc, fun ρ S => evs_app es c ρ S, Res.bind_ok, List.cons_append]
theorem rk_nil {tk : TA} (h : PK X [] tk) : PK X [] tk := h
theorem rk_nil0 : PK X [] (tA X W (evs C .nil)) := by
  refine ⟨fun pos pins s σ H Q I h => pk_nil.run pos pins s σ H Q I ?_⟩
  obtain ⟨b, ρ, S, a0, h⟩ := h
  unfold evs at h
  exact h b H [] .refl a0.sr .nil
theorem rk_cons {e : Ex} {r : Exs} {pe : Expr} {nm : Option Str} {kpos : Pos} {kws : List Keyword} (h : PE X pe (tE X W (ev C e))) (hr : PK X kws (tA X W (evs C r))) : PK X (⟨nm, pe, kpos⟩ :: kws) (tA X W (evs C (.cons e r))) := by
  refine ⟨fun pos pins s σ H Q I h1 => (pk_cons h hr).run pos pins s σ H Q I ?_⟩
  obtain ⟨b, ρ, S, a0, h1⟩ := h1
  refine ⟨b, ρ, S, a0, ?_⟩
  unfold evs at h1
  cases q : ev C e ρ S with
  | bad => rw [q] at h1; exact h1
  | exn x S1 => rw [q] at h1; exact h1
  | ok d S1 =>
    rw [q] at h1
    simp only [Res.bind_ok] at h1
    intro b1 H1 v x1 s1 r1
    refine ⟨b1, ρ, S1, a0.mono x1 s1, ?_⟩
    cases q2 : evs C r ρ S1 with
    | bad => rw [q2] at h1; exact h1
    | exn x S2 => rw [q2] at h1; exact exD0.mono x1 h1
    | ok ds S2 =>
      rw [q2] at h1
      simp only [Res.bind_ok] at h1
      intro b2 H2 vs x2 s2 r2
      exact h1 b2 H2 _ (x1.trans x2) s2 (.cons (r1.mono x2 s1.sub) r2)
theorem r_callk0 {i : Nat} {f : Str} {ps ks : List Str} {perm : List Nat} {kw : List (Nat × List Str × List Nat)} {es : Exs} {kws : List Keyword} {p pos : Pos} (c : CallOk X C i f ps kw) (hin : (0, ks, perm) ∈ kw) (tk : L2.Takes X W) (hg : Gl X f) (hl : es.len = ks.length) (ha : PK X kws (tA X W (evs C es)))
    (hall : (backToKw pos (keywordEach kws X.env)).all (·.1.isSome) = true) (hks : (backToKw pos (keywordEach kws X.env)).filterMap (·.1) = ks)
    (hpl : ((backTo pos (starEach [] X.env)).any (·.1) || (backToKw pos (keywordEach kws X.env)).any (·.1.isNone)) = false) : PE X (.Call (.Name f p) [] kws pos) (tE X W (ev C (.callk i es ks perm))) := by
  obtain ⟨⟨k, addr, fd, F, hr, hm, hk, _, hkw⟩, hd⟩ := c
  obtain ⟨hb, hp, hp2, hj⟩ := hkw _ hin
  refine ⟨fun pins s σ H Q I h => ?_⟩
  obtain ⟨b, ρ, S, a0, h⟩ := h
  unfold ev at h
  refine wpAny_Call_Name_kw (ld_glob I hg hm ?_ hd)
  refine PySem.W.callWith_KW0 (h₀ := X.base) I.ok.mod.kin hk hall ?_ hpl
  refine thn (ha.run pos pins s σ H (fun zs H2 => ∃ b1 S1 ds, Ext b H b1 H2 ∧ SR X.K X.mg b1 S1 H2 ∧ RDs X.K X.mg b1 H2 ds zs ∧ zs.length = ks.length ∧ finD X b1 H2 Q (fun c d H' => W c d σ H') (C.call i (perm.filterMap fun j => ds[j]?) S1)) I ⟨b, ρ, S, a0, ?_⟩) fun ws s2 ⟨zs, H2, I2, rz, b1, S1, ds, x1, s1, r1, lz, q2⟩ => ⟨I2.kIn, ?_⟩
  · exact evs_RD a0 h hl fun b1 H1 vs ds S1 x1 a1 r1 l1 h1 => ⟨b1, S1, ds, x1, a1.sr, r1, l1, h1⟩
  · rw [hks]
    exact run_kw F hr hb hp hp2 hj (L2.passAt tk σ) I2 .nil rz rfl (by show ws.length = ks.length; rw [← rz.length]; exact lz) s1 r1 q2
theorem r_callk {i : Nat} {f : Str} {ps ks : List Str} {perm : List Nat} {n : Nat} {kw : List (Nat × List Str × List Nat)} {es fs : Exs} {pe : Expr} {pes : List Expr} {kws : List Keyword} {p pos : Pos} (c : CallOk X C i f ps kw) (hin : (n, ks, perm) ∈ kw) (tk : L2.Takes X W) (hg : Gl X f) (hle : es.len = n) (hl : fs.len = ks.length)
    (hae : PA X (pe :: pes) (tA X W (evs C es))) (ha : PK X kws (tA X W (evs C fs)))
    (hall : (backToKw pos (keywordEach kws X.env)).all (·.1.isSome) = true) (hks : (backToKw pos (keywordEach kws X.env)).filterMap (·.1) = ks)
    (hpl : ((backTo pos (starEach (pe :: pes) X.env)).any (·.1) || (backToKw pos (keywordEach kws X.env)).any (·.1.isNone)) = false) (he : starEach (pe :: pes) X.env = (false, eval pe X.env) :: starEach pes X.env) : PE X (.Call (.Name f p) (pe :: pes) kws pos) (tE X W (ev C (.callk i (es.app fs) ks perm))) := by
  obtain ⟨⟨k, addr, fd, F, hr, hm, hk, _, hkw⟩, hd⟩ := c
  obtain ⟨hb, hp, hp2, hj⟩ := hkw _ hin
  refine ⟨fun pins s σ H Q I h => ?_⟩
  obtain ⟨b, ρ, S, a0, h⟩ := h
  unfold ev at h
  rw [evs_app, Res.bind_assoc] at h
  refine wpAny_Call_Name_kw (ld_glob I hg hm ?_ hd)
  refine PySem.W.callWith_KW (h₀ := X.base) I.ok.mod.kin hk hall ?_ hpl he
  refine thn (hae.run pos pins s σ H (fun vs H1 => ∃ b1 S1 ds, Ext b H b1 H1 ∧ At X b1 ρ S1 σ H1 ∧ RDs X.K X.mg b1 H1 ds vs ∧ vs.length = n ∧ finD X b1 H1 Q (fun c d H' => W c d σ H') ((evs C fs ρ S1).bind fun ys S2 => C.call i (perm.filterMap fun j => (ds ++ ys)[j]?) S2)) I ⟨b, ρ, S, a0, ?_⟩) fun us s1 ⟨vs, H1, I1, rv, b1, S1, ds, x1, a1, r1, lv, q1⟩ => ?_
  · refine evs_RD a0 h hle fun b1 H1 vs ds S1 x1 a1 r1 l1 h1 => ⟨b1, S1, ds, x1, a1, r1, l1, ?_⟩
    simpa only [Res.bind_assoc, Res.bind_ok] using h1
  · refine thn (ha.run pos pins s1 σ H1 (fun zs H2 => ∃ b2 S2 es2, Ext b1 H1 b2 H2 ∧ At X b2 ρ S2 σ H2 ∧ RDs X.K X.mg b2 H2 es2 zs ∧ zs.length = ks.length ∧ finD X b2 H2 Q (fun c d H' => W c d σ H') (C.call i (perm.filterMap fun j => (ds ++ es2)[j]?) S2)) I1 ⟨b1, ρ, S1, a1, ?_⟩) fun ws s2 ⟨zs, H2, I2, rz, b2, S2, es2, x2, a2, r2, lz, q2⟩ => ⟨I2.kIn, ?_⟩
    · exact evs_RD a1 q1 hl fun b2 H2 zs es2 S2 x2 a2 r2 l2 h2 => ⟨b2, S2, es2, x2, a2, r2, l2, h2⟩
    · rw [hks]
      exact run_kw F hr hb hp hp2 hj (L2.passAt tk σ) I2 rv rz (by show us.length = n; rw [← rv.length]; exact lv) (by show ws.length = ks.length; rw [← rz.length]; exact lz) a2.sr ((r1.mono x2 a1.sr.sub).append r2) q2

/-! ### raise -/
/-- an own exception class without own __init__ -/
structure XcOk (X : Cx) (x : Str) : Prop where
  ex : ∃ (a : Addr) (B newId initId : String) (bmB : List Value), ExcBaseFacts B newId initId bmB ∧ PySem.W.excIn X.K a bmB newId = true ∧ X.mg x = some (.ref a) ∧ PySem.W.keepIn X.K (.ref a) = true ∧ Raises X (.ref a)
  dbg : (x == ("__debug__" : Str)) = false
theorem pmk_own0 {a : Addr} {bmB : List Value} {B newId initId : String} {x : Str} {p pos : Pos} (F : ExcBaseFacts B newId initId bmB) (q : PySem.W.excIn X.K a bmB newId = true) (gC : X.mg x = some (.ref a)) (kC : PySem.W.keepIn X.K (.ref a) = true) (r : Raises X (.ref a)) (hg : Gl X x)
    (hdb : (x == ("__debug__" : Str)) = false) : PMk X (.Call (.Name x p) [] [] pos) (fun _ H Q => Q (.ref a) none H) := by
  intro pins s σ H Q I h
  refine wpAny_Call_Name_kw (ld_glob I hg gC ?_ hdb)
  refine PySem.W.callWith_K0 I.kIn kC ?_
  show wpAny _ _ (call (.ref a) []) _ _ _
  obtain ⟨bm, N, nm, qn, bs, hdct, sn, sub, ab, col, dd, k0, k1, k2, k3, k5, mN, hC, hN, hni, T⟩ := exc_obj I.kIn q
  refine wpAny_call_exc_subT F T hC hN hni (fun h' e hm => ?_) (Nat.zero_le _)
  exact mk_of I hm r h (I.hok.gone hm.new)
theorem s_raise {x : Str} {p pos pos' : Pos} (hc : X.calm = true) (tk : L2.Takes X W) (c : XcOk X x) (hg : Gl X x) : PS X (.Raise (some (.Call (.Name x p) [] [] pos)) none pos') (tS X W (evS C (.raise x .nil))) := by
  obtain ⟨⟨a, B, n1, n2, bm, F, q, gC, kC, r⟩, hd⟩ := c
  refine (L2.ps_raise hc tk (pmk_own0 F q gC kC r hg hd)).imp' fun D σ H h => ?_
  obtain ⟨b, ρ, S, a0, h⟩ := h
  simp only [evS, evs, bindO_ok] at h
  exact h b σ H (.ref a) none .refl a0 ⟨rfl, rfl, a, gC, rfl⟩
end
end DL
/-! DN1: sorted(set(x)), x a list or a tuple of ints. -/
namespace DL
open PySem PySem.Spec L2
open PyProof.Rows hiding St
section
variable {P : Program} {w : World} {A : Around} {E : Value → Shared → Prop} {s : Shared}
theorem set_listI {l : Addr} {items : Array Value} (ns : List Int) {Q : Value → Shared → Prop} (hz : A.handled = none) (hl : s.heap.IsList l items) (iz : IntsAre items.toList ns) (bz : ns.length + 1 < scanBound)
    (h : ∀ (hq : Heap) (tz c : Nat), SetR w hq s.heap.objs.size (fun j => decide (j ∈ ns)) c → c ≤ ns.length → (∀ b o, s.heap.get? b = some o → hq.get? b = some o) → Q (.ref s.heap.objs.size) { s with heap := hq, toks := tz }) :
    wpAny (model P w) A (call (.type "set") [.ref l]) Q E s := by
  have lz : items.size = ns.length := by
    have q := IntsAre.length iz
    rw [Array.length_toList] at q
    exact q
  obtain ⟨c, tl, zm⟩ := F.called_set.mro
  have zd := F.called_set.made
  have zb := F.called_set.sub
  refine wpAny_call (codeAny_of_tree ?_)
  show wpAny _ _ (callAny (.type "set") _) _ _ _
  refine wpAny_pure ⟨Code.quiet_builtin _ (by decide +kernel), codeAny_builtin F.entry_type_call ?_⟩
  rw [Around.under_plain (weight_type_call_type "set" [.ref l] []) rfl]
  have h1 := F.called_set.notType
  have h2 := F.called_set.canCreate
  have zc := F.typeCall_set_1 (.ref l)
  repeat (any_goals (first | assumption | wp_step))

  refine codeAny_mono (code_set_led1 (.ref l) (E := E) (Q₁ := fun ob sa => ob = .ref s.heap.objs.size ∧ sa = { s with heap := s.heap.push { cls := .type "set", dict := none, data := .set #[] 0 (.fresh 0 0 (!w.params.followText "set-order")) } }) ⟨rfl, rfl⟩) fun r sa zr => ?_
  cases r with
  | error e => exact zr
  | ok fl =>
    cases fl with
    | ret ob =>
      obtain ⟨rfl, rfl⟩ := zr
      have wS : (s.heap.push { cls := .type "set", dict := none, data := .set #[] 0 (.fresh 0 0 (!w.params.followText "set-order")) }).get? s.heap.objs.size = some { cls := .type "set", dict := none, data := .set #[] 0 (.fresh 0 0 (!w.params.followText "set-order")) } := Heap.get?_push_size _ rfl
      have wT : Shared.TypeIs { s with heap := s.heap.push { cls := .type "set", dict := none, data := .set #[] 0 (.fresh 0 0 (!w.params.followText "set-order")) } } (.ref s.heap.objs.size) "set" := ⟨_, wS, rfl⟩
      have yl := F.called_set.init.lookup
      have yb := F.called_set.init.bind (.ref s.heap.objs.size)
      repeat (any_goals (first | assumption | wp_step))

      refine codeAny_mono (codeAny_call_builtin (R := wants (fun r sb => r = .none ∧ ∃ hq tz c, sb = { s with heap := hq, toks := tz } ∧ SetR w hq s.heap.objs.size (fun j => decide (j ∈ ns)) c ∧ c ≤ ns.length ∧
          (∀ b o, s.heap.get? b = some o → hq.get? b = some o)) E) F.called_set.init.plain F.entry_set_init (check_set_init_1 wT ?_)) fun ra sb yr => ?_
      · obtain ⟨ol, yx, ycl, nl, ydl⟩ := hl
        obtain ⟨ocls, odict, odata, oslots⟩ := ol
        simp only at ycl ydl
        subst ycl; subst ydl
        have yo : (s.heap.push { cls := .type "set", dict := none, data := .set #[] 0 (.fresh 0 0 (!w.params.followText "set-order")) }).get? l = some { cls := .type "list", dict := odict, data := .seq items nl, slots := oslots } := Heap.get?_push_of_some _ yx
        have ys1 := F.sub_list_set
        have ys2 := F.sub_list_frozenset
        have yne : (Value.type "list" == Value.type "dict") = false := by decide
        have yl1 : (s.heap.push { cls := .type "set", dict := none, data := .set #[] 0 (.fresh 0 0 (!w.params.followText "set-order")) }).IsList l items := ⟨_, yo, rfl, nl, rfl⟩
        unfold Builtin.«set.__init__» noKeywords Builtin.Frozenset.updateFrom
        generalize ypi : pyIter = PI
        wp_walk
        subst ypi

        refine wpAny_pyIter_list yl1 ?_
        refine wpAny_bind (wpAny_runValue ?_)
        have ylS : l < s.heap.objs.size := Heap.lt_size yx
        have yh : A.in1.in1.in1.handled = none := by simp [hz]
        have yz : (s.heap.push { cls := .type "set", dict := none, data := .set #[] 0 (.fresh 0 0 (!w.params.followText "set-order")) }).objs.size = s.heap.objs.size + 1 := Heap.size_push ..
        have yn : l ≠ (s.heap.push { cls := .type "set", dict := none, data := .set #[] 0 (.fresh 0 0 (!w.params.followText "set-order")) }).objs.size := by
          rw [Heap.size_push]; exact Nat.ne_of_lt (Nat.lt_succ_of_lt ylS)
        have yf : s.heap.objs.size ∉ [(s.heap.push { cls := .type "set", dict := none, data := .set #[] 0 (.fresh 0 0 (!w.params.followText "set-order")) }).objs.size, l] := by
          rw [Heap.size_push]; simp only [List.mem_cons, List.mem_singleton, List.not_mem_nil, or_false, not_or]
          exact ⟨Nat.ne_of_lt (Nat.lt_succ_self _), Nat.ne_of_gt ylS⟩
        have yv : ∀ (i : Nat) (v : Value), items[i]? = some v → ∃ k t, ns[i]? = some k ∧ v = .int k t := fun i v hv => by
          have hi : i < ns.length := by rw [← lz]; exact (Array.getElem?_eq_some_iff.mp hv).1
          obtain ⟨t, e⟩ := PyProof.Rows.IntsAre.int_at iz i v (by rw [Array.getElem?_toList]; exact hv)
          refine ⟨ns[i], t, List.getElem?_eq_getElem hi, ?_⟩
          rw [e, List.getD_eq_getElem?_getD, List.getElem?_eq_getElem hi] <;> rfl
        refine set_update_ints ((Walks.list yh _ l yn items).toS) s.heap.objs.size
          yf ns lz bz yv (items.size - 0) 0 _ (by omega) (Nat.zero_le _)
          ⟨⟨_, Heap.get?_push_size _ rfl, rfl, rfl⟩, (yl1.push _)⟩ ?wS0 ?wR
        case wS0 =>
          have yg : ((s.heap.push { cls := .type "set", dict := none, data := .set #[] 0 (.fresh 0 0 (!w.params.followText "set-order")) }).push { cls := .type "list_iterator", data := .fields #[.ref l, .int 0 0] }).get? s.heap.objs.size
              = some { cls := .type "set", dict := none, data := .set #[] 0 (.fresh 0 0 (!w.params.followText "set-order")) } := Heap.get?_push_of_some _ wS
          exact ⟨0, Nat.le_refl 0, setR_new_at yg⟩
        case wR =>
          intro sq cq ym yc hS'
          obtain ⟨hq, gq, dq, tq, oq⟩ := sq
          have ye1 : gq = s.gens := ym.gens
          have ye2 : dq = s.drawn := ym.drawn
          have ye3 : oq = s.os := ym.os
          subst ye1; subst ye2; subst ye3
          show wpAny _ _ _ _ _ _
          refine wpAny_pure ?_
          show wpAny _ _ (ret Value.none) _ _ _
          rw [lz] at yc
          refine wpAny_pure ⟨rfl, hq, tq, cq, rfl, hS', yc, fun b o e => ?_⟩
          have yb0 : b < s.heap.objs.size := Heap.lt_size e
          have yb1 : b ≠ s.heap.objs.size := Nat.ne_of_lt yb0
          have yb2 : b ≠ (s.heap.push { cls := .type "set", dict := none, data := .set #[] 0 (.fresh 0 0 (!w.params.followText "set-order")) }).objs.size := by
            rw [Heap.size_push]; exact Nat.ne_of_lt (Nat.lt_succ_of_lt yb0)
          exact ym.heap b o (by simp only [List.mem_cons, List.mem_singleton, List.not_mem_nil, or_false, not_or]; exact ⟨yb1, yb2⟩) (Heap.get?_push_of_some _ (Heap.get?_push_of_some _ e))

      · cases ra with
        | error e => exact yr
        | ok fla =>
          cases fla with
          | ret r =>
            obtain ⟨rfl, hq, tz, cq, rfl, hS', yc, yk⟩ := yr
            repeat (any_goals (first | assumption | wp_step))
            exact h _ _ _ hS' yc yk
          | _ => exact yr.elim
    | _ => exact zr.elim
end
end DL
/-! DN1: rules for sorted(set(x)), min, max of two. -/
namespace DL
open PySem PySem.Spec L2
open PyProof.Rows hiding St
/-! ### the members in order -/
theorem insS_mem (k j : Int) : ∀ l : List Int, j ∈ insS k l ↔ j = k ∨ j ∈ l
  | [] => by simp [insS]
  | x :: r => by
    unfold insS
    split
    · simp
    · split
      · rename_i e
        subst e
        simp
      · rw [List.mem_cons, insS_mem k j r, List.mem_cons]
        constructor
        · rintro (h | h | h)
          · exact .inr (.inl h)
          · exact .inl h
          · exact .inr (.inr h)
        · rintro (h | h | h)
          · exact .inr (.inl h)
          · exact .inl h
          · exact .inr (.inr h)
theorem insS_sorted (k : Int) : ∀ l : List Int, l.Pairwise (· < ·) → (insS k l).Pairwise (· < ·)
  | [], _ => by simp [insS]
  | x :: r, h => by
    obtain ⟨h1, h2⟩ := List.pairwise_cons.mp h
    unfold insS
    split
    · rename_i q
      refine List.pairwise_cons.mpr ⟨fun y hy => ?_, h⟩
      rcases List.mem_cons.mp hy with e | hy
      · omega
      · have := h1 y hy
        omega
    · split
      · exact h
      · refine List.pairwise_cons.mpr ⟨fun y hy => ?_, insS_sorted k r h2⟩
        rcases (insS_mem k y r).mp hy with e | hy
        · omega
        · exact h1 y hy
theorem sset_mem (j : Int) : ∀ l : List Int, j ∈ sset l ↔ j ∈ l
  | [] => Iff.rfl
  | k :: r => by
    show j ∈ insS k (sset r) ↔ _
    rw [insS_mem, sset_mem j r, List.mem_cons]
theorem sset_sorted : ∀ l : List Int, (sset l).Pairwise (· < ·)
  | [] => List.Pairwise.nil
  | k :: r => insS_sorted k _ (sset_sorted r)
theorem sorted_eq : ∀ (l m : List Int), l.Pairwise (· < ·) → m.Pairwise (· < ·) → (∀ j, j ∈ l ↔ j ∈ m) → l = m
  | [], [], _, _, _ => rfl
  | [], y :: m, _, _, h => absurd ((h y).mpr List.mem_cons_self) List.not_mem_nil
  | x :: l, [], _, _, h => absurd ((h x).mp List.mem_cons_self) List.not_mem_nil
  | x :: l, y :: m, h1, h2, h => by
    obtain ⟨a1, a2⟩ := List.pairwise_cons.mp h1
    obtain ⟨b1, b2⟩ := List.pairwise_cons.mp h2
    have e : x = y := by
      rcases List.mem_cons.mp ((h x).mp List.mem_cons_self) with e | hx
      · exact e
      · rcases List.mem_cons.mp ((h y).mpr List.mem_cons_self) with e | hy
        · exact e.symm
        · have := a1 y hy
          have := b1 x hx
          omega
    subst e
    rw [sorted_eq l m a2 b2 fun j => ?_]
    constructor
    · intro hj
      rcases List.mem_cons.mp ((h j).mp (List.mem_cons_of_mem _ hj)) with e | q
      · have := a1 j hj
        omega
      · exact q
    · intro hj
      rcases List.mem_cons.mp ((h j).mpr (List.mem_cons_of_mem _ hj)) with e | q
      · have := b1 j hj
        omega
      · exact q
/-! ### set(x), then sorted -/
def rSetI (K : PySem.W.Frag) (w : World) : List V → Hp → VK → Prop := fun xs H Q => ∃ (l : Addr) (ns : List Int), xs = [.ref l] ∧ (SqL K H l (ns.map V.int) ∨ SqT K H l (ns.map V.int)) ∧ ns.length < 60 ∧
  ∀ p c, H p = none → c ≤ ns.length → Q (.ref p) (upd H p (SetO w p (fun j => decide (j ∈ ns)) c))
section
variable {X : Cx} {W : WX} {b b' : Bt} {S S' : Store} {σ : L2.St} {H H' : Hp} {C : EvC}
theorem cr_setI (hc : X.calm = true) : CallR X (.type "set") (rSetI X.K X.w) := by
  intro pins s σ H xs us Q I r h
  obtain ⟨l, ns, rfl, hs, h60, q⟩ := h
  rw [Vals.ref1 r]
  have fin : ∀ (h' : Heap) (tk c : Nat), SetR X.w h' s.heap.objs.size (fun j => decide (j ∈ ns)) c → c ≤ ns.length → (∀ b o, s.heap.get? b = some o → h'.get? b = some o) → EP X pins σ Q (.ref s.heap.objs.size) { s with heap := h', toks := tk } := fun h' tk c R hcn k =>
    ⟨.ref _, upd H s.heap.objs.size (SetO X.w s.heap.objs.size (fun j => decide (j ∈ ns)) c), I.laid (t' := tk) k (Nat.le_refl _) (setO_new R), rfl, q _ c (I.hok.fresh (Nat.le_refl _)) hcn⟩
  rcases hs with hs | hs
  · obtain ⟨its, rv, pl, hz⟩ := I.list hs
    exact set_listI ns (I.ok.hd hc) pl.isList (by simpa using rv.ints) (by unfold scanBound; omega) fin
  · obtain ⟨its, rv, pt, hz⟩ := I.tuple hs
    exact call_set_tupI ns (I.ok.hd hc) (show s.heap.IsTuple l its.toArray from pt) (by simpa using rv.ints) (by unfold scanBound; omega) fin
theorem ints_RD {b : Bt} {H : Hp} : ∀ ns : List Int, RDs X.K X.mg b H (ns.map D.int) (ns.map V.int)
  | [] => .nil
  | n :: ns => .cons (.int n) (ints_RD ns)
theorem r_sset {m : Bool} {e : Ex} {pe : Expr} {p p2 q pos : Pos} (hc : X.calm = true) (hg : Gl X "sorted") (hm : X.mg "sorted" = none) (hg2 : Gl X "set") (hm2 : X.mg "set" = none) (hs : starEach [pe] X.env = (false, eval pe X.env) :: starEach [] X.env)
    (h : PE X pe (tE X W (ev C e))) : PE X (.Call (.Name "sorted" p) [.Call (.Name "set" p2) [pe] [] q] [] pos) (tE X W (ev C (.bcall m .sset e))) := by
  unfold ev
  refine r_op1 (r := fun v H Q => rSetI X.K X.w [v] H fun u H1 => rSortedSet X.w [u] H1 Q) (biD_calm m .sset) (fun ha => (L2.pe_callB (cr_sortedSet hc) hg hm PyProof.Rows.boot_sorted
    (pa_cons (L2.pe_callTy (cr_setI hc) hg2 hm2 PyProof.Rows.boot_set (pa_cons ha pa_nil hs) (by decide) (by decide) hs) pa_nil)).imp' fun σ H Q h => h) (fun b S d v H Q sr r f => ?_) h
  unfold biD at f
  simp only at f
  split at f
  · rename_i ns qn
    cases q1 : seqOf S d with
    | none => rw [q1] at qn; cases qn
    | some xs =>
      rw [q1] at qn
      obtain ⟨a, vs, rfl, hs, r1⟩ := seqOf_ok sr q1 r
      have ev : vs = ns.map V.int := ints_V qn r1
      subst ev
      split at f
      · rename_i hz
        refine ⟨a, ns, rfl, hs, hz, fun p1 c hp hcn => ⟨p1, _, c, rfl, upd_same, by omega, fun ms p3 hsm hmem hl hp3 => ?_⟩⟩
        have e1 : ms = sset ns := sorted_eq ms (sset ns) hsm (sset_sorted ns) fun j => by rw [hmem j, sset_mem, decide_eq_true_eq]
        subst e1
        have x1 : Ext b H b (upd H p1 (SetO X.w p1 (fun j => decide (j ∈ ns)) c)) := ext_new hp
        have s1 := sr.new (o := SetO X.w p1 (fun j => decide (j ∈ ns)) c) hp
        refine newL_ok (m := m) s1 (ints_RD (sset ns)) hp3 ?_
        cases m
        · exact fun b2 H2 v2 x2 s2 r2 => f b2 H2 v2 (x1.trans x2) s2 r2
        · exact fun b2 H2 v2 x2 s2 r2 => f b2 H2 v2 (x1.trans x2) s2 r2
      · exact f.elim
  · exact f.elim
theorem rgV_eq (j : Int) : rgV 0 j = ((List.range j.toNat).map fun (i : Nat) => (i : Int)).map V.int := by
  unfold rgV
  rw [List.map_map, Int.sub_zero]
  congr 1
  funext i
  show V.int (0 + (i : Int)) = V.int (i : Int)
  rw [Int.zero_add]
theorem rgD_eq (j : Int) : ((List.range j.toNat).map fun (i : Nat) => D.int i) = ((List.range j.toNat).map fun (i : Nat) => (i : Int)).map D.int := by
  rw [List.map_map]
  rfl
theorem r_lrg {m : Bool} {e : Ex} {pe : Expr} {p p2 q pos : Pos} (hc : X.calm = true) (hg : Gl X "list") (hm : X.mg "list" = none) (hg2 : Gl X "range") (hm2 : X.mg "range" = none) (hs : starEach [pe] X.env = (false, eval pe X.env) :: starEach [] X.env)
    (h : PE X pe (tE X W (ev C e))) : PE X (.Call (.Name "list" p) [.Call (.Name "range" p2) [pe] [] q] [] pos) (tE X W (ev C (.bcall m .lrg e))) := by
  unfold ev
  refine r_op1 (r := fun v H Q => ∃ n, v = .int n ∧ (RgOk 0 n ∧ ∀ q, H q = none → Q (.ref q) (upd H q (.lst (rgV 0 n))))) (biD_calm m .lrg) (fun ha => L2.pe_listRg hc hg hm (prg_1 hg2 hm2 ha hs)) (fun b S d v H Q sr r f => ?_) h
  cases r <;> first
    | exact f.elim
    | skip
  rename_i j
  have f' : pfin X b H Q (if j.natAbs ≤ 100000 then newL m ((List.range j.toNat).map fun (i : Nat) => D.int i) S else .bad) := f
  split at f'
  · rename_i hz
    refine ⟨j, rfl, ⟨by omega, by omega, by omega, by omega, by omega⟩, fun p hp => ?_⟩
    rw [rgV_eq]
    rw [rgD_eq] at f'
    exact newL_ok sr (ints_RD _) hp f'
  · exact f'.elim
theorem r_trg {m : Bool} {e : Ex} {pe : Expr} {p p2 q pos : Pos} (hc : X.calm = true) (hg : Gl X "tuple") (hm : X.mg "tuple" = none) (hg2 : Gl X "range") (hm2 : X.mg "range" = none) (hs : starEach [pe] X.env = (false, eval pe X.env) :: starEach [] X.env)
    (h : PE X pe (tE X W (ev C e))) : PE X (.Call (.Name "tuple" p) [.Call (.Name "range" p2) [pe] [] q] [] pos) (tE X W (ev C (.bcall m .trg e))) := by
  unfold ev
  refine r_op1 (r := fun v H Q => ∃ n, v = .int n ∧ (RgOk 0 n ∧ ∀ q, H q = none → Q (.ref q) (upd H q (.tup (rgV 0 n))))) (biD_calm m .trg) (fun ha => L2.pe_tupRg hc hg hm (prg_1 hg2 hm2 ha hs)) (fun b S d v H Q sr r f => ?_) h
  cases r <;> first
    | exact f.elim
    | skip
  rename_i j
  have f' : pfin X b H Q (if j.natAbs ≤ 100000 then .ok (.tup ((List.range j.toNat).map fun (i : Nat) => D.int i)) S else .bad) := f
  split at f'
  · rename_i hz
    refine ⟨j, rfl, ⟨by omega, by omega, by omega, by omega, by omega⟩, fun p hp => ?_⟩
    rw [rgV_eq]
    rw [rgD_eq] at f'
    exact tup_ok sr (ints_RD _) hp f'
  · exact f'.elim
theorem mm2_calm (mx : Bool) (x y : D) (S : Store) : (optR (mm2 mx x y) S).calm := optR_calm
theorem r_op2b {f : D → D → Store → Res D} {r : R2} {ma mb : M D} {a c e : Expr} (hf : ∀ d e S, (f d e S).calm) (hr : ∀ {ta tb : TE}, PE X a ta → PE X c tb → PE X e (tOp r ta tb))
    (hk : ∀ b S d e x y H Q, SR X.K X.mg b S H → RD X.K X.mg b H d x → RD X.K X.mg b H e y → pfin X b H Q (f d e S) → r x y H Q)
    (ha : PE X a (tE X W ma)) (hc : PE X c (tE X W mb)) : PE X e (tE X W fun ρ S => (ma ρ S).bind fun x S1 => (mb ρ S1).bind fun y S2 => f x y S2) := by
  refine (hr ha hc).imp' fun σ H Q h => ?_
  obtain ⟨b, ρ, S, a0, h⟩ := h
  exact ⟨b, ρ, S, a0, seqD a0 h fun b1 H1 v d S1 x1 s1 r1 h1 => ⟨b1, ρ, S1, a0.mono x1 s1, seqD (a0.mono x1 s1) h1 fun b2 H2 u e S2 x2 s2 r2 h2 => hk b2 S2 d e v u H2 Q s2 (r1.mono x2 s1.sub) r2 (finD_pfin (hf d e S2) h2)⟩⟩
theorem r_mm {mx : Bool} {a c : Ex} {pa pc : Expr} {p pos : Pos} {x : Str} (hc : X.calm = true) (hx : x = if mx then "max" else "min") (hg : Gl X x) (hm : X.mg x = none) (hs : starEach [pa, pc] X.env = (false, eval pa X.env) :: starEach [pc] X.env) (hs2 : starEach [pc] X.env = (false, eval pc X.env) :: starEach [] X.env) (hpl : ((backTo pos (starEach [pc] X.env)).any fun x => x.1) = false)
    (ha : PE X pa (tE X W (ev C a))) (hb : PE X pc (tE X W (ev C c))) : PE X (.Call (.Name x p) [pa, pc] [] pos) (tE X W (ev C (.mm mx a c))) := by
  unfold ev
  have ok : ∀ (d e : D) (u v : V) (b : Bt) (S : Store) (H : Hp) (Q : VK), SR X.K X.mg b S H → RD X.K X.mg b H d u → RD X.K X.mg b H e v → pfin X b H Q (optR (mm2 mx d e) S) → ∃ i j, [u, v] = [V.int i, V.int j] ∧ Q (.int (if mx then (if j > i then j else i) else (if j < i then j else i))) H := fun d e u v b S H Q sr r1 r2 f => by
    cases r1 <;> first
      | exact f.elim
      | (cases r2 <;> first
        | exact f.elim
        | exact ⟨_, _, rfl, same_ok sr (.int _) f⟩)
  cases mx with
  | true =>
    subst hx
    exact r_op2b (r := fun u v H Q => ∃ i j, [u, v] = [V.int i, V.int j] ∧ Q (.int (if j > i then j else i)) H) (f := fun x y S => optR (mm2 true x y) S) (fun d e S => mm2_calm true d e S)
      (fun h1 h2 => L2.pe_callB (call_max2 hc) hg hm (by decide +kernel) (pa_cons h1 (pa_cons h2 pa_nil hs2) hs) (by decide) (by decide) hs hpl) (fun b S d e u v H Q sr r1 r2 f => ok d e u v b S H Q sr r1 r2 f) ha hb
  | false =>
    subst hx
    exact r_op2b (r := fun u v H Q => ∃ i j, [u, v] = [V.int i, V.int j] ∧ Q (.int (if j < i then j else i)) H) (f := fun x y S => optR (mm2 false x y) S) (fun d e S => mm2_calm false d e S)
      (fun h1 h2 => L2.pe_callB (call_min2 hc) hg hm (by decide +kernel) (pa_cons h1 (pa_cons h2 pa_nil hs2) hs) (by decide) (by decide) hs hpl) (fun b S d e u v H Q sr r1 r2 f => ok d e u v b S H Q sr r1 r2 f) ha hb
end
end DL
/-! DL11: own syntax against the program's: a matcher and what it shows, expressions. -/
namespace DL
open PySem PySem.Spec L2
open PyProof.Rows hiding St

structure Glo where
  fns : List (Str × List Str × List (Nat × List Str × List Nat))
  cls : List Str
  cns : List Str
  bns : List Str
structure MC where
  N : List Str
  sc : Scope
  /- none: a def's body; else a comprehension's block -/
  blk : Option Scope
  g : Glo
def MC.isGl (c : MC) (x : Str) : Bool := decide (c.sc.names.lookup x = some .globalImplicit)
def MC.vis (c : MC) (x : Str) : Bool := match c.sc.names.lookup x with
  | some .local => true
  | some .cell => true
  | some .free => true
  | _ => false
def MC.fnx (c : MC) (x : Str) : Bool := match c.blk with
  | none => true
  | some s => s.names.lookup x == some .cell
/-- may be stored to -/
def MC.loc (c : MC) (x : Str) : Bool := match c.sc.names.lookup x with
  | some .local => true
  | some .cell => c.fnx x
  | _ => false
def MC.isLocal (c : MC) (x : Str) : Bool := decide (c.sc.names.lookup x = some .local)
def MC.inBlk (c : MC) (scope : Scope) : MC := { c with sc := relS scope c.sc, blk := some scope }

def notDbg (x : Str) : Bool := !(x == ("__debug__" : Str))
def notStar : Expr → Bool
  | .Starred _ _ => false
  | _ => true
def notSet : Expr → Bool
  | .Set _ _ _ => false
  | _ => true
def plainIx : Expr → Bool
  | .Name _ _ => true
  | .Constant (.int _) _ _ => true
  | .BinOp _ _ _ _ => true
  | .UnaryOp _ _ _ => true
  | .Call _ _ _ _ => true
  | .Subscript _ _ _ => true
  | .Attribute _ _ _ => true
  | _ => false
def plainBase : Expr → Bool
  | .Name _ _ => true
  | .Subscript _ _ _ => true
  | .Attribute _ _ _ => true
  | _ => false
def Bop.op : Bop → Operator
  | .add => .Add
  | .sub => .Sub
  | .mul => .Mult
  | .fdiv => .FloorDiv
  | .mod => .Mod
  | .pow => .Pow
def Bi.name : Bi → Option Str
  | .len => some "len"
  | .tuple => some "tuple"
  | .list => some "list"
  | .int => some "int"
  | .abs => some "abs"
  | .all => some "all"
  | .any => some "any"
  | .sum => some "sum"
  | .max => some "max"
  | _ => none
def MC.isB (c : MC) (x : Str) : Bool := c.isGl x && c.g.bns.contains x
def tyOf : Str → Option Ty := fun x => if x = "bool" then some .bl else if x = "int" then some .int else if x = "str" then some .str else if x = "tuple" then some .tup else if x = "list" then some .lst else if x = "dict" then some .dic else none
def kwNames (kws : List Keyword) : List Str := kws.filterMap (·.arg)
def allNamed (kws : List Keyword) : Bool := kws.all fun k => k.arg.isSome
def mNames (c : MC) : List Nat → List Expr → Bool
  | [], [] => true
  | i :: is, .Name x _ :: es => decide (c.N[i]? = some x) && c.loc x && mNames c is es
  | _, _ => false
/-- a comprehension's target: its slots are the block's own -/
def mTgL (c : MC) (own : List Nat) : Tg → Expr → Bool
  | .name i, .Name x _ => decide (c.N[i]? = some x) && c.loc x && own.contains i
  | .tup is, .Tuple es _ _ => mNames c is es && is.all fun i => own.contains i
  | _, _ => false
def ownP (N : List Str) (own : List Nat) : List (Str × Nat) := own.filterMap fun i => N[i]?.map fun x => (x, i)
def isTupT : Expr → Bool
  | .Tuple _ _ _ => true
  | _ => false
mutual
def mE (c : MC) (t : Bool) : Ex → Expr → Bool
  | .var i, pe => (match pe with
    | .Name x _ => decide (c.N[i]? = some x) && c.vis x && notDbg x && !(x == ("__classdict__" : Str))
    | _ => false)
  | .con k, pe => (match k, pe with
    | .non, .Constant .none _ _ => true
    | .bl b, .Constant (.bool b') _ _ => b == b'
    | .int i, .Constant (.int j) _ _ => decide (i = j)
    | .str x, .Constant (.str y) _ _ => decide (x = y)
    | _, _ => false)
  | .glob x, pe => (match pe with
    | .Name y _ => !t && decide (x = y) && c.isGl x && c.g.cns.contains x && notDbg x
    | _ => false)
  | .tup es, pe => (match pe with
    | .Tuple pes _ _ => !t && decide (es.len ≤ 1000) && mEs c es pes
    | _ => false)
  | .lst m es, pe => (match pe with
    | .List pes _ => !t && decide (es.len ≤ 1000) && mEs c es pes
    | _ => false)
  | .bin m op a b, pe => (match pe with
    | .BinOp pa o pb _ => !t && decide (op.op = o) && mE c false a pa && mE c false b pb
    | _ => false)
  | .neg a, pe => (match pe with
    | .UnaryOp .USub pa _ => !t && mE c false a pa
    | _ => false)
  | .not a, pe => (match pe with
    | .UnaryOp .Not pa _ => mE c t a pa
    | _ => false)
  | .cmp op a b, pe => (match pe with
    | .Compare pa [o] [pb] _ => decide (op.op = o) && !behindInMarks op.op pb && mE c false a pa && mE c false b pb
    | _ => false)
  | .chain op op' a b d, pe => (match pe with
    | .Compare pa [o, o'] [pb, pd] _ => decide (op.op = o) && decide (op'.op = o') && !lastMarks [op.op, op'.op] [pb, pd] && mE c false a pa && mE c false b pb && mE c false d pd
    | _ => false)
  | .and a b, pe => (match pe with
    | .BoolOp .And (pa :: pb :: rest) pos => mE c t a pa && mE c t b (match rest with
      | [] => pb
      | r :: rs => .BoolOp .And (pb :: r :: rs) pos)
    | _ => false)
  | .or a b, pe => (match pe with
    | .BoolOp .Or (pa :: pb :: rest) pos => mE c t a pa && mE c t b (match rest with
      | [] => pb
      | r :: rs => .BoolOp .Or (pb :: r :: rs) pos)
    | _ => false)
  | .ite k a b, pe => (match pe with
    | .IfExp pk pa pb _ => !t && mE c true k pk && mE c false a pa && mE c false b pb
    | _ => false)
  | .ix a b, pe => (match pe with
    | .Subscript pa pb _ => plainIx pb && mE c false a pa && mE c false b pb
    | _ => false)
  | .slice m a lo hi, pe => (match pe with
    | .Subscript pa (.Slice plo phi none _) _ => !t && mE c false a pa && mO c lo plo && mO c hi phi
    | _ => false)
  | .lc m elt tg it ifs own, pe => (match pe with
    | .ListComp pelt [⟨ptg, piter, pifs, 0⟩] scope _ => !t && blkC c.N c.sc scope (ownP c.N own) && decide ((ownP c.N own).map (·.2) = own) && mTgL (c.inBlk scope) own tg ptg && notSet piter && mI c it ptg piter &&
        mTs (c.inBlk scope) ifs pifs && mE (c.inBlk scope) false elt pelt
    | _ => false)
  | .call f es, pe => (match pe with
    | .Call (.Name x _) pes [] _ => c.isGl x && (match c.g.fns[f]? with
      | some (y, ps, _) => decide (x = y) && decide (es.len = ps.length)
      | none => false) && mEs c es pes
    | _ => false)
  | .callk f es ks perm, pe => (match pe with
    | .Call (.Name x _) pes kws _ => c.isGl x && (match c.g.fns[f]? with
      | some (y, ps, kw) => decide (x = y) && decide ((pes.length, ks, perm) ∈ kw)
      | none => false) && decide (kwNames kws = ks) && allNamed kws && mKs c es pes kws
    | _ => false)
  | .mm mx a b, pe => (match pe with
    | .Call (.Name x _) [pa, pb] [] _ => !t && decide (x = if mx then "max" else "min") && c.isB x && notStar pa && notStar pb && mE c false a pa && mE c false b pb
    | _ => false)
  | .bcall m b e, pe => (match pe with
    | .Call (.Name x _) [pa] [] _ => if b = .sset then (match pa with
        | .Call (.Name y _) [pa2] [] _ => decide (x = "sorted") && decide (y = "set") && c.isB x && c.isB y && notStar pa2 && mE c false e pa2
        | _ => false)
      else if b = .lrg ∨ b = .trg then (match pa with
        | .Call (.Name y _) [pa2] [] _ => decide (x = if b = .lrg then "list" else "tuple") && decide (y = "range") && c.isB x && c.isB y && notStar pa2 && mE c false e pa2
        | _ => false)
      else decide (b.name = some x) && c.isB x && notStar pa && mE c false e pa
    | _ => false)
  | .isi a ts, pe => (match pe with
    | .Call (.Name x _) [pa, pt] [] _ => decide (x = "isinstance") && c.isB x && notStar pa && (match pt, ts with
      | .Name T _, [k] => decide (tyOf T = some k) && c.isB T
      | .Tuple [.Name T _, .Name T' _] _ _, [k, k'] => decide (tyOf T = some k) && c.isB T && decide (tyOf T' = some k') && c.isB T'
      | _, _ => false) && mE c false a pa
    | _ => false)
  | .meth o name es, pe => (match pe with
    | .Call (.Attribute po nm apos) pes [] cpos => !t && decide (nm = name.nm) && plainBase po && (apos.endLine == cpos.line) && (match pes with
      | [] => decide (name = .pop)
      | [pa] => (decide (name = .append) || decide (name = .extend) || decide (name = .pop))
      | _ => false) && mE c false o po && mEs c es pes
    | _ => false)
def mEs (c : MC) : Exs → List Expr → Bool
  | .nil, pes => (match pes with
    | [] => true
    | _ => false)
  | .cons e r, pes => (match pes with
    | pe :: pr => notStar pe && mE c false e pe && mEs c r pr
    | _ => false)
def mKs (c : MC) : Exs → List Expr → List Keyword → Bool
  | .nil, pes, kws => (match pes, kws with
    | [], [] => true
    | _, _ => false)
  | .cons e r, pes, kws => (match pes, kws with
    | pe :: pr, kws => notStar pe && mE c false e pe && mKs c r pr kws
    | [], k :: kws => mE c false e k.value && mKs c r [] kws
    | _, _ => false)
def mO (c : MC) : Option Ex → Option Expr → Bool
  | none, po => (match po with
    | none => true
    | _ => false)
  | some e, po => (match po with
    | some pe => mE c false e pe
    | _ => false)
def mTs (c : MC) : Exs → List Expr → Bool
  | .nil, pes => (match pes with
    | [] => true
    | _ => false)
  | .cons e r, pes => (match r, pes with
    | .nil, [pe] => mE c true e pe
    | _, _ => false)
def mI (c : MC) : Iq → Expr → Expr → Bool
  | .val e, _, pe => mE c false e pe
  | .str e, _, pe => mE c false e pe
  | .range es, _, pe => (match pe with
    | .Call (.Name x _) pes [] _ => decide (x = "range") && c.isB x && (decide (es.len = 1) || decide (es.len = 2)) && mEs c es pes
    | _ => false)
  | .enum e, tg, pe => (match pe with
    | .Call (.Name x _) [pa] [] _ => decide (x = "enumerate") && c.isB x && isTupT tg && notStar pa && mE c false e pa
    | _ => false)
  | .zip a b, tg, pe => (match pe with
    | .Call (.Name x _) [pa, pb] [] _ => decide (x = "zip") && c.isB x && isTupT tg && notStar pa && notStar pb && mE c false a pa && mE c false b pb
    | _ => false)
end
end DL
/-! DL12: what the matcher shows of expressions. -/
namespace DL
open PySem PySem.Spec L2
open PyProof.Rows hiding St

/-- a constant of the module -/
def CnOk (X : Cx) (cn : Str → Option D) (x : Str) : Prop := ∃ (u : Value) (v : V), X.mg x = some u ∧ RelV v u ∧ ∀ d, cn x = some d → ∀ b H, RD X.K X.mg b H d v
structure GX (X : Cx) (c : MC) (C : EvC) (W : WX) : Prop where
  hN : X.N = c.N
  nd : X.N.Nodup
  sc : X.env.scope = c.sc
  fn : ∀ x, c.fnx x = true → X.fn x = true
  calm : X.calm = true
  tk : L2.Takes X W
  w : C.w ≤ 16777216
  hu : X.A.units + 65 < cLine
  calls : ∀ (i : Nat) f ps kw, c.g.fns[i]? = some (f, ps, kw) → CallOk X C i f ps kw
  xc : ∀ x ∈ c.g.cls, XcOk X x
  cns : ∀ x ∈ c.g.cns, CnOk X C.cn x
  bns : ∀ x ∈ c.g.bns, X.mg x = none
section
variable {X : Cx} {c : MC} {C : EvC} {W : WX}
theorem CallOk.blk {i : Nat} {f : Str} {ps : List Str} {kw : List (Nat × List Str × List Nat)} {s : Shared} {H : Hp} {scope : Scope} {cenv : Env} {fp : List Addr} (h : CallOk X C i f ps kw) : CallOk (X.blk s H scope cenv fp) C i f ps kw := ⟨h.ex, h.dbg⟩
theorem XcOk.blk {x : Str} {s : Shared} {H : Hp} {scope : Scope} {cenv : Env} {fp : List Addr} (h : XcOk X x) : XcOk (X.blk s H scope cenv fp) x := ⟨h.ex, h.dbg⟩
theorem GX.blk (g : GX X c C W) (scope : Scope) (s : Shared) (H : Hp) (A : Addr) (cl : List (Str × Addr)) (fp : List Addr) : GX (X.blk s H scope (compEnvC scope cl A X.env) fp) (c.inBlk scope) C W0 :=
  ⟨g.hN, g.nd, by show relS scope X.env.scope = relS scope c.sc; rw [g.sc], fun x h => h, g.calm, fun u s' ⟨_, _, _, _, _, _, _, _, _, _, _, _, _, _, _, _, h⟩ => h.elim, g.w, g.hu, fun i f ps kw h => (g.calls i f ps kw h).blk, fun x h => (g.xc x h).blk, g.cns, g.bns⟩
theorem GX.gl (g : GX X c C W) {x : Str} (h : c.isGl x = true) : Gl X x := by
  unfold MC.isGl at h
  show X.env.scope.names.lookup x = _
  rw [g.sc]
  exact of_decide_eq_true h
theorem GX.visX (g : GX X c C W) {x : Str} (h : c.vis x = true) : Vis X.env.scope x := by
  unfold MC.vis at h
  unfold Vis
  rw [g.sc]
  split at h
  · exact .inl (by assumption)
  · exact .inr (.inl (by assumption))
  · exact .inr (.inr (by assumption))
  · cases h
theorem GX.locX (g : GX X c C W) {x : Str} (h : c.loc x = true) : L2.Loc X.env.scope x ∧ (X.fn x = true ∨ X.env.scope.names.lookup x = some .local) := by
  unfold MC.loc at h
  unfold L2.Loc
  rw [g.sc]
  split at h
  · rename_i e; exact ⟨.inl e, .inr e⟩
  · rename_i e; exact ⟨.inr e, .inl (g.fn x h)⟩
  · cases h
theorem GX.bX (g : GX X c C W) {x : Str} (h : c.isB x = true) : Gl X x ∧ X.mg x = none := by
  unfold MC.isB at h
  rw [Bool.and_eq_true] at h
  exact ⟨g.gl h.1, g.bns x (List.contains_iff_mem.mp h.2)⟩
theorem GX.ix (g : GX X c C W) {i : Nat} {x : Str} (h : decide (c.N[i]? = some x) = true) : X.N[i]? = some x := by rw [g.hN]; exact of_decide_eq_true h
theorem dbg_of {x : Str} (h : notDbg x = true) : (x == ("__debug__" : Str)) = false := by
  unfold notDbg at h
  cases q : x == ("__debug__" : Str) with
  | false => rfl
  | true => rw [q] at h; cases h
theorem star_of {pe : Expr} {pr : List Expr} {env : Env} (h : notStar pe = true) : starEach (pe :: pr) env = (false, eval pe env) :: starEach pr env := by
  cases pe <;> first | rfl | cases h
theorem set_of {pe : Expr} {env : Env} (h : notSet pe = true) : ∀ x, foldedSetIterable pe env x = pure x := by
  intro x
  cases pe <;> first | rfl | cases h
theorem plainIx_of {pe : Expr} (h : plainIx pe = true) : PlainIx pe := by
  intro o i
  cases pe <;> first | rfl | cases h
theorem base_of {po : Expr} {nm : Str} {env : Env} (h : plainBase po = true) : attributeBase po nm env (eval po env) = eval po env := by
  cases po <;> first | rfl | cases h
theorem names_of (g : GX X c C W) : ∀ {is : List Nat} {es : List Expr}, mNames c is es = true → NamesAt X is es
  | [], [], _ => trivial
  | i :: is, .Name x p :: es, h => by
    unfold mNames at h
    simp only [Bool.and_eq_true] at h
    obtain ⟨⟨h1, h2⟩, h3⟩ := h
    obtain ⟨q1, q2⟩ := g.locX h2
    exact ⟨g.ix h1, q1, q2, names_of g h3⟩
  | [], e :: es, h => by cases e <;> cases h
  | i :: is, [], h => by cases h
  | i :: is, .BoolOp .. :: es, h => by cases h
  | i :: is, .NamedExpr .. :: es, h => by cases h
  | i :: is, .BinOp .. :: es, h => by cases h
  | i :: is, .UnaryOp .. :: es, h => by cases h
  | i :: is, .Lambda .. :: es, h => by cases h
  | i :: is, .IfExp .. :: es, h => by cases h
  | i :: is, .Dict .. :: es, h => by cases h
  | i :: is, .Set .. :: es, h => by cases h
  | i :: is, .ListComp .. :: es, h => by cases h
  | i :: is, .SetComp .. :: es, h => by cases h
  | i :: is, .DictComp .. :: es, h => by cases h
  | i :: is, .GeneratorExp .. :: es, h => by cases h
  | i :: is, .Await .. :: es, h => by cases h
  | i :: is, .Yield .. :: es, h => by cases h
  | i :: is, .YieldFrom .. :: es, h => by cases h
  | i :: is, .Compare .. :: es, h => by cases h
  | i :: is, .Call .. :: es, h => by cases h
  | i :: is, .FormattedValue .. :: es, h => by cases h
  | i :: is, .JoinedStr .. :: es, h => by cases h
  | i :: is, .Constant .. :: es, h => by cases h
  | i :: is, .Attribute .. :: es, h => by cases h
  | i :: is, .Subscript .. :: es, h => by cases h
  | i :: is, .Starred .. :: es, h => by cases h
  | i :: is, .List .. :: es, h => by cases h
  | i :: is, .Tuple .. :: es, h => by cases h
  | i :: is, .Slice .. :: es, h => by cases h
theorem op_D (m : Bool) : ∀ op : Bop, OpR X (binaryOp op.op) (rD2 X (binD m op))
  | .add => op_addD m
  | .sub => op_subD m
  | .mul => op_mulD m
  | .fdiv => op_fdivD m
  | .mod => op_modD m
  | .pow => op_powD m
theorem PT.pw_bool {op : BoolOp} {vs : List Expr} {pos : Pos} {t : TT} (h : PT X (.BoolOp op vs pos) t) : PW X (.BoolOp op vs pos) t := ⟨fun _ => h.run⟩
theorem pe_bool1 {op : BoolOp} {pe : Expr} {pos : Pos} {t : TE} (h : PE X pe t) : PE X (.BoolOp op [pe] pos) t := by
  refine ⟨fun pins s σ H Q I hw => ?_⟩
  exact h.run pins s σ H Q I hw
theorem ty_of {T : Str} {k : Ty} (h : tyOf T = some k) : bootBuiltins T = some (.type k.nm) ∧ k.nm ∈ clsNames ∧ T ≠ "__name__" ∧ (T == ("__debug__" : Str)) = false := by
  unfold tyOf at h
  split at h
  · rename_i e; cases h; subst e; exact ⟨rfl, by decide, by decide, by decide⟩
  split at h
  · rename_i e; cases h; subst e; exact ⟨rfl, by decide, by decide, by decide⟩
  split at h
  · rename_i e; cases h; subst e; exact ⟨rfl, by decide, by decide, by decide⟩
  split at h
  · rename_i e; cases h; subst e; exact ⟨rfl, by decide, by decide, by decide⟩
  split at h
  · rename_i e; cases h; subst e; exact ⟨rfl, by decide, by decide, by decide⟩
  split at h
  · rename_i e; cases h; subst e; exact ⟨rfl, by decide, by decide, by decide⟩
  · cases h
theorem r_bi {m : Bool} {bi : Bi} {e : Ex} {pe : Expr} {x : Str} {p pos : Pos} (hc : X.calm = true) (hb : bi.name = some x) (hg : Gl X x) (hm : X.mg x = none) (hs : notStar pe = true) (h : PE X pe (tE X W (ev C e))) :
    PE X (.Call (.Name x p) [pe] [] pos) (tE X W (ev C (.bcall m bi e))) := by
  cases bi <;> cases hb
  · exact r_biF call_len (bi_len m) hg hm rfl (by decide) (by decide) (star_of hs) h
  · exact r_biT call_tuple_of (bi_tuple m) hg hm rfl (by decide) (by decide) (star_of hs) h
  · exact r_biT call_list_of (bi_list m) hg hm rfl (by decide) (by decide) (star_of hs) h
  · exact r_biT call_int1 (bi_int m) hg hm rfl (by decide) (by decide) (star_of hs) h
  · exact r_biF call_abs (bi_abs m) hg hm rfl (by decide) (by decide) (star_of hs) h
  · exact r_biF (cr_all hc) (bi_all m) hg hm rfl (by decide) (by decide) (star_of hs) h
  · exact r_biF (cr_any hc) (bi_any m) hg hm rfl (by decide) (by decide) (star_of hs) h
  · exact r_biF (cr_sum hc) (bi_sum m) hg hm rfl (by decide) (by decide) (star_of hs) h
  · exact r_biF (cr_max hc) (bi_max m) hg hm rfl (by decide) (by decide) (star_of hs) h
end
end DL
/-! DL13: the matcher's soundness, expressions. -/
namespace DL
open PySem PySem.Spec L2
open PyProof.Rows hiding St
section
variable {C : EvC}
theorem ande {a b : Bool} (h : (a && b) = true) : a = true ∧ b = true := by simpa [Bool.and_eq_true] using h
theorem both {X : Cx} {W : WX} {e : Ex} {pe : Expr} {t : Bool} (hv : e.isVal = true) (hp : ∀ whole, isTrue pe X.env whole = (do let v ← whole; standAt pe.pos; holding [v] (truthy v))) (h : PE X pe (tE X W (ev C e))) :
    (t = false → PE X pe (tE X W (ev C e))) ∧ (t = true → PT X pe (tB X W (evT C e))) := ⟨fun _ => h, fun _ => t_val hv hp h⟩
theorem noT {X : Cx} {W : WX} {e : Ex} {pe : Expr} {t : Bool} (ht : (!t) = true) (h : PE X pe (tE X W (ev C e))) :
    (t = false → PE X pe (tE X W (ev C e))) ∧ (t = true → PT X pe (tB X W (evT C e))) := ⟨fun _ => h, fun e => by subst e; cases ht⟩
theorem st_tg {X : Cx} {c : MC} {W : WX} {scope : Scope} {own : List Nat} (g : GX X c C W) : ∀ {tg : Tg} {ptg : Expr}, mTgL (c.inBlk scope) own tg ptg = true →
    ∃ G : TG, TgOk X G (evG C tg) own ∧ (∀ d ρ' S' ρ1 S1, evG C tg d ρ' S' = .ok ρ1 S1 → S1 = S') ∧ ForBlk X scope fun Y => PG Y ptg G := by
  intro tg ptg h
  unfold mTgL at h
  split at h
  · rename_i i x p
    obtain ⟨h, h3⟩ := ande h
    obtain ⟨h1, h2⟩ := ande h
    refine ⟨gName i, tg_name (List.contains_iff_mem.mp h3), name_S, fun s H A cl fp => ?_⟩
    have gb := g.blk scope s H A cl fp
    obtain ⟨q1, q2⟩ := gb.locX h2
    exact pg_name gb.nd (gb.ix h1) q1 q2
  · rename_i is es k p
    obtain ⟨h1, h2⟩ := ande h
    refine ⟨_, tg_tup (fun i hi => List.contains_iff_mem.mp (List.all_eq_true.mp h2 i hi)), tup_S, fun s H A cl fp => ?_⟩
    have gb := g.blk scope s H A cl fp
    exact g_tupE gb.calm gb.nd (names_of gb h1)
  · cases h
theorem kw_sets : ∀ {kws : List Keyword} {pos : Pos} {env : Env}, allNamed kws = true → (backToKw pos (keywordEach kws env)).all (·.1.isSome) = true ∧ (backToKw pos (keywordEach kws env)).filterMap (·.1) = kwNames kws ∧ (backToKw pos (keywordEach kws env)).any (·.1.isNone) = false
  | [], _, _, _ => ⟨rfl, rfl, rfl⟩
  | ⟨nm, v, p⟩ :: kws, pos, env, h => by
    unfold allNamed at h
    rw [List.all_cons] at h
    obtain ⟨h1, h2⟩ := ande h
    obtain ⟨q1, q2, q3⟩ := kw_sets (kws := kws) (pos := pos) (env := env) h2
    cases nm with
    | none => cases h1
    | some x =>
      refine ⟨?_, ?_, ?_⟩
      · exact q1
      · exact congrArg (List.cons x) q2
      · exact q3
theorem kw_len : ∀ {kws : List Keyword}, allNamed kws = true → (kwNames kws).length = kws.length
  | [], _ => rfl
  | ⟨nm, v, p⟩ :: kws, h => by
    unfold allNamed at h
    rw [List.all_cons] at h
    obtain ⟨h1, h2⟩ := ande h
    cases nm with
    | none => cases h1
    | some x => exact congrArg Nat.succ (kw_len (kws := kws) h2)
theorem cd_of {x : Str} (h : (!(x == ("__classdict__" : Str))) = true) : (x == ("__classdict__" : Str)) = false := by
  cases q : x == ("__classdict__" : Str) with
  | false => rfl
  | true => rw [q] at h; cases h
theorem any_plain {env : Env} {pos : Pos} : ∀ {pes : List Expr}, (∀ pe ∈ pes, notStar pe = true) → ((backTo pos (starEach pes env)).any fun x => x.1) = false
  | [], _ => rfl
  | pe :: pes, h => by
    rw [star_of (h pe List.mem_cons_self)]
    exact any_plain fun q hq => h q (List.mem_cons_of_mem _ hq)
mutual
theorem sE {X : Cx} {c : MC} {W : WX} (g : GX X c C W) (t : Bool) : ∀ (e : Ex) (pe : Expr), mE c t e pe = true → (t = false → PE X pe (tE X W (ev C e))) ∧ (t = true → PT X pe (tB X W (evT C e)))
  | .var i, pe, h => by
    unfold mE at h
    split at h
    · obtain ⟨h, h4⟩ := ande h
      obtain ⟨h, h3⟩ := ande h
      obtain ⟨h1, h2⟩ := ande h
      exact both rfl (fun _ => rfl) (r_var C (g.ix h1) (g.visX h2) (dbg_of h3) (cd_of h4))
    · cases h
  | .con k, pe, h => by
    unfold mE at h
    split at h
    · exact both rfl (fun _ => rfl) (r_con C pe_non fun _ _ => .non)
    · have e := eq_of_beq h
      subst e
      exact both rfl (fun _ => rfl) (r_con C pe_bl fun _ _ => .bl _)
    · have e := of_decide_eq_true h
      subst e
      exact both rfl (fun _ => rfl) (r_con C pe_int fun _ _ => .int _)
    · have e := of_decide_eq_true h
      subst e
      exact both rfl (fun _ => rfl) (r_con C pe_str fun _ _ => .str _)
    · cases h
  | .glob x, pe, h => by
    unfold mE at h
    split at h
    · obtain ⟨h, h5⟩ := ande h
      obtain ⟨h, h4⟩ := ande h
      obtain ⟨h, h3⟩ := ande h
      obtain ⟨h1, h2⟩ := ande h
      have e := of_decide_eq_true h2
      subst e
      obtain ⟨u, v, q1, q2, q3⟩ := g.cns x (List.contains_iff_mem.mp h4)
      exact noT h1 (r_glob C (pe_glob (g.gl h3) q1 q2 (dbg_of h5)) q3)
    · cases h
  | .tup es, pe, h => by
    unfold mE at h
    split at h
    · obtain ⟨h, h3⟩ := ande h
      obtain ⟨h1, h2⟩ := ande h
      exact noT h1 (r_tup (sEs g es _ h3).1 (of_decide_eq_true h2))
    · cases h
  | .lst m es, pe, h => by
    unfold mE at h
    split at h
    · obtain ⟨h, h3⟩ := ande h
      obtain ⟨h1, h2⟩ := ande h
      exact noT h1 (r_lst (sEs g es _ h3).1 (of_decide_eq_true h2))
    · cases h
  | .bin m op a b, pe, h => by
    unfold mE at h
    split at h
    · obtain ⟨h, h4⟩ := ande h
      obtain ⟨h, h3⟩ := ande h
      obtain ⟨h1, h2⟩ := ande h
      have e := of_decide_eq_true h2
      subst e
      exact noT h1 (r_bin (op_D m op) ((sE g false a _ h3).1 rfl) ((sE g false b _ h4).1 rfl))
    · cases h
  | .neg a, pe, h => by
    unfold mE at h
    split at h
    · obtain ⟨h1, h2⟩ := ande h
      exact noT h1 (r_neg ((sE g false a _ h2).1 rfl))
    · cases h
  | .not a, pe, h => by
    unfold mE at h
    split at h
    · have q := sE g t a _ h
      exact ⟨fun e => r_not (q.1 e), fun e => t_not (q.2 e)⟩
    · cases h
  | .cmp op a b, pe, h => by
    unfold mE at h
    split at h
    · obtain ⟨h, h4⟩ := ande h
      obtain ⟨h, h3⟩ := ande h
      obtain ⟨h1, h2⟩ := ande h
      have e := of_decide_eq_true h1
      subst e
      rw [Bool.not_eq_true'] at h2
      exact ⟨fun _ => r_cmp g.hu h2 ((sE g false a _ h3).1 rfl) ((sE g false b _ h4).1 rfl), fun _ => t_cmp g.hu h2 ((sE g false a _ h3).1 rfl) ((sE g false b _ h4).1 rfl)⟩
    · cases h
  | .chain op op' a b d, pe, h => by
    unfold mE at h
    split at h
    · obtain ⟨h, h6⟩ := ande h
      obtain ⟨h, h5⟩ := ande h
      obtain ⟨h, h4⟩ := ande h
      obtain ⟨h, h3⟩ := ande h
      obtain ⟨h1, h2⟩ := ande h
      have e := of_decide_eq_true h1
      subst e
      have e := of_decide_eq_true h2
      subst e
      rw [Bool.not_eq_true'] at h3
      exact ⟨fun _ => r_chain g.hu h3 ((sE g false a _ h4).1 rfl) ((sE g false b _ h5).1 rfl) ((sE g false d _ h6).1 rfl), fun _ => t_chain g.hu h3 ((sE g false a _ h4).1 rfl) ((sE g false b _ h5).1 rfl) ((sE g false d _ h6).1 rfl)⟩
    · cases h
  | .and a b, pe, h => by
    unfold mE at h
    split at h
    · obtain ⟨h1, h2⟩ := ande h
      have qa := sE g t a _ h1
      have qb := sE g t b _ h2
      rename_i pa pb rest pos
      refine ⟨fun e => r_and (qa.1 e) ?_, fun e => (t_and (qa.2 e) ?_).pt⟩
      · have q := qb.1 e
        cases rest with
        | nil => exact pe_bool1 q
        | cons r rs => exact q
      · have q := qb.2 e
        cases rest with
        | nil => exact pw_and1 q
        | cons r rs => exact PT.pw_bool q
    · cases h
  | .or a b, pe, h => by
    unfold mE at h
    split at h
    · obtain ⟨h1, h2⟩ := ande h
      have qa := sE g t a _ h1
      have qb := sE g t b _ h2
      rename_i pa pb rest pos
      refine ⟨fun e => r_or (qa.1 e) ?_, fun e => (t_or (qa.2 e) ?_).pt⟩
      · have q := qb.1 e
        cases rest with
        | nil => exact pe_bool1 q
        | cons r rs => exact q
      · have q := qb.2 e
        cases rest with
        | nil => exact pw_or1 q
        | cons r rs => exact PT.pw_bool q
    · cases h
  | .ite k a b, pe, h => by
    unfold mE at h
    split at h
    · obtain ⟨h, h4⟩ := ande h
      obtain ⟨h, h3⟩ := ande h
      obtain ⟨h1, h2⟩ := ande h
      exact noT h1 (r_ite ((sE g true k _ h2).2 rfl) ((sE g false a _ h3).1 rfl) ((sE g false b _ h4).1 rfl))
    · cases h
  | .ix a b, pe, h => by
    unfold mE at h
    split at h
    · obtain ⟨h, h3⟩ := ande h
      obtain ⟨h1, h2⟩ := ande h
      exact both rfl (fun _ => rfl) (r_ix (plainIx_of h1) ((sE g false a _ h2).1 rfl) ((sE g false b _ h3).1 rfl))
    · cases h
  | .slice m a lo hi, pe, h => by
    unfold mE at h
    split at h
    · obtain ⟨h, h4⟩ := ande h
      obtain ⟨h, h3⟩ := ande h
      obtain ⟨h1, h2⟩ := ande h
      exact noT h1 (r_slice ((sE g false a _ h2).1 rfl) (sO g lo _ h3) (sO g hi _ h4))
    · cases h
  | .lc m elt tg it ifs own, pe, h => by
    unfold mE at h
    split at h
    · rename_i pelt ptg piter pifs scope pos
      obtain ⟨h, h8⟩ := ande h
      obtain ⟨h, h7⟩ := ande h
      obtain ⟨h, h6⟩ := ande h
      obtain ⟨h, h5⟩ := ande h
      obtain ⟨h, h4⟩ := ande h
      obtain ⟨h, h3⟩ := ande h
      obtain ⟨h1, h2⟩ := ande h
      have e := of_decide_eq_true h3
      obtain ⟨G, t1, t2, t3⟩ := st_tg g h4
      have ok : BlkOk X.N X.env.scope scope (ownP c.N own) := by rw [g.hN, g.sc]; exact blkOk_by h2
      have q := r_lc (m := m) (pos := pos) (own := ownP c.N own) g.w g.calm g.nd ok (by rw [e]; exact t1) t2 (sI g it _ _ h6) t3 (fun s H A cl fp => sTs (g.blk _ s H A cl fp) ifs _ h7) (fun s H A cl fp => (sE (g.blk _ s H A cl fp) false elt _ h8).1 rfl) (set_of h5)
      rw [e] at q
      exact noT h1 q
    · cases h
  | .call f es, pe, h => by
    unfold mE at h
    split at h
    · rename_i pes pos
      obtain ⟨h, h4⟩ := ande h
      obtain ⟨h2, h3⟩ := ande h
      split at h3
      · rename_i y ps kw q
        obtain ⟨h1, h3'⟩ := ande h3
        have e := of_decide_eq_true h1
        subst e
        have l := of_decide_eq_true h3'
        have ck := g.calls f _ ps kw q
        obtain ⟨ha, hst⟩ := sEs g es _ h4
        refine both rfl (fun _ => rfl) ?_
        cases pes with
        | nil =>
          cases es with
          | nil => exact r_call0 ck g.tk (g.gl h2) l.symm
          | cons e r => unfold mEs at h4; cases h4
        | cons pe pes => exact r_call ck g.tk (g.gl h2) l ha (star_of (hst pe List.mem_cons_self)) (any_plain fun q hq => hst q (List.mem_cons_of_mem _ hq))
      · cases h3
    · cases h
  | .callk f es ks perm, pe, h => by
    unfold mE at h
    split at h
    · rename_i pes kws pos
      obtain ⟨h, h6⟩ := ande h
      obtain ⟨h, h5⟩ := ande h
      obtain ⟨h, h4⟩ := ande h
      obtain ⟨h2, h3⟩ := ande h
      split at h3
      · rename_i y ps kw q
        obtain ⟨h1, h3'⟩ := ande h3
        have e := of_decide_eq_true h1
        subst e
        have l := of_decide_eq_true h3'
        have ck := g.calls f _ ps kw q
        have ek := of_decide_eq_true h4
        obtain ⟨a, b, he, ha, hb, la, lb, hst⟩ := sKs g es _ _ h6
        obtain ⟨k1, k2, k3⟩ := kw_sets (kws := kws) (pos := pos) (env := X.env) h5
        have lk := kw_len h5
        refine both rfl (fun _ => rfl) ?_
        subst he
        cases pes with
        | nil =>
          cases a with
          | nil => exact r_callk0 ck l g.tk (g.gl h2) (by show b.len = _; rw [lb, ← ek, lk]) hb k1 (k2.trans ek) (by rw [k3]; rfl)
          | cons e r => cases la
        | cons pe pes => exact r_callk ck l g.tk (g.gl h2) la (by rw [lb, ← ek, lk]) ha hb k1 (k2.trans ek) (by rw [k3, any_plain hst]; rfl) (star_of (hst pe List.mem_cons_self))
      · cases h3
    · cases h
  | .mm mx a b, pe, h => by
    unfold mE at h
    split at h
    · obtain ⟨h, h7⟩ := ande h
      obtain ⟨h, h6⟩ := ande h
      obtain ⟨h, h5⟩ := ande h
      obtain ⟨h, h4⟩ := ande h
      obtain ⟨h, h3⟩ := ande h
      obtain ⟨h1, h2⟩ := ande h
      obtain ⟨q1, q2⟩ := g.bX h3
      exact noT h1 (r_mm g.calm (of_decide_eq_true h2) q1 q2 (star_of h4) (star_of h5) (any_plain fun q hq => by rw [List.mem_singleton.mp hq]; exact h5) ((sE g false a _ h6).1 rfl) ((sE g false b _ h7).1 rfl))
    · cases h
  | .bcall m b e, pe, h => by
    unfold mE at h
    split at h
    · split at h
      · rename_i hb
        subst hb
        split at h
        · obtain ⟨h, h6⟩ := ande h
          obtain ⟨h, h5⟩ := ande h
          obtain ⟨h, h4⟩ := ande h
          obtain ⟨h, h3⟩ := ande h
          obtain ⟨h1, h2⟩ := ande h
          have e1 := of_decide_eq_true h1
          have e2 := of_decide_eq_true h2
          subst e1
          subst e2
          obtain ⟨q1, q2⟩ := g.bX h3
          obtain ⟨p1, p2⟩ := g.bX h4
          exact both rfl (fun _ => rfl) (r_sset g.calm q1 q2 p1 p2 (star_of h5) ((sE g false e _ h6).1 rfl))
        · cases h
      · split at h
        · rename_i hb0 hb
          split at h
          · obtain ⟨h, h6⟩ := ande h
            obtain ⟨h, h5⟩ := ande h
            obtain ⟨h, h4⟩ := ande h
            obtain ⟨h, h3⟩ := ande h
            obtain ⟨h1, h2⟩ := ande h
            have e1 := of_decide_eq_true h1
            have e2 := of_decide_eq_true h2
            subst e1
            subst e2
            obtain ⟨q1, q2⟩ := g.bX h3
            obtain ⟨p1, p2⟩ := g.bX h4
            rcases hb with hb | hb
            · subst hb
              exact both rfl (fun _ => rfl) (r_lrg g.calm q1 q2 p1 p2 (star_of h5) ((sE g false e _ h6).1 rfl))
            · subst hb
              exact both rfl (fun _ => rfl) (r_trg g.calm q1 q2 p1 p2 (star_of h5) ((sE g false e _ h6).1 rfl))
          · cases h
        obtain ⟨h, h4⟩ := ande h
        obtain ⟨h, h3⟩ := ande h
        obtain ⟨h1, h2⟩ := ande h
        obtain ⟨q1, q2⟩ := g.bX h2
        exact both rfl (fun _ => rfl) (r_bi g.calm (of_decide_eq_true h1) q1 q2 h3 ((sE g false e _ h4).1 rfl))
    · cases h
  | .isi a ts, pe, h => by
    unfold mE at h
    split at h
    · obtain ⟨h, h5⟩ := ande h
      obtain ⟨h, h4⟩ := ande h
      obtain ⟨h, h3⟩ := ande h
      obtain ⟨h1, h2⟩ := ande h
      have e := of_decide_eq_true h1
      subst e
      obtain ⟨q1, q2⟩ := g.bX h2
      have qa := (sE g false a _ h5).1 rfl
      refine both rfl (fun _ => rfl) ?_
      split at h4
      · obtain ⟨a1, a2⟩ := ande h4
        obtain ⟨b1, b2, b3, b4⟩ := ty_of (of_decide_eq_true a1)
        obtain ⟨c1, c2⟩ := g.bX a2
        exact r_isi1 (x := ("isinstance" : Str)) q1 q2 c1 c2 b1 b2 b3 b4 (star_of h3) qa
      · obtain ⟨h4, a4⟩ := ande h4
        obtain ⟨h4, a3⟩ := ande h4
        obtain ⟨a1, a2⟩ := ande h4
        obtain ⟨b1, b2, b3, b4⟩ := ty_of (of_decide_eq_true a1)
        obtain ⟨d1, d2, d3, d4⟩ := ty_of (of_decide_eq_true a3)
        obtain ⟨c1, c2⟩ := g.bX a2
        obtain ⟨e1, e2⟩ := g.bX a4
        exact r_isi2 (x := ("isinstance" : Str)) q1 q2 c1 c2 b1 b2 e1 e2 d1 d2 b3 b4 d3 d4 (star_of h3) qa
      · cases h4
    · cases h
  | .meth o name es, pe, h => by
    unfold mE at h
    split at h
    · obtain ⟨h, h7⟩ := ande h
      obtain ⟨h, h6⟩ := ande h
      obtain ⟨h, h5⟩ := ande h
      obtain ⟨h, h4⟩ := ande h
      obtain ⟨h, h3⟩ := ande h
      obtain ⟨h1, h2⟩ := ande h
      have e := of_decide_eq_true h2
      subst e
      have qo := (sE g false o _ h6).1 rfl
      refine noT h1 ?_
      split at h5
      · have e := of_decide_eq_true h5
        subst e
        cases es with
        | nil => exact r_meth0 PySem.F.slot_list_pop PySem.F.type_list_pop mt_pop (fun b S d v H Q a1 a2 a3 => mt_popD rfl a1 a2 .nil a3) (base_of h3) h4 qo
        | cons e r => unfold mEs at h7; cases h7
      · cases es with
        | nil => unfold mEs at h7; cases h7
        | cons e r =>
          unfold mEs at h7
          simp only at h7
          obtain ⟨h78, h9⟩ := ande h7
          obtain ⟨h77, h8⟩ := ande h78
          have qe := (sE g false e _ h8).1 rfl
          cases r with
          | cons e r => unfold mEs at h9; cases h9
          | nil =>
            rw [Bool.or_eq_true, Bool.or_eq_true] at h5
            rcases h5 with (h5 | h5) | h5
            · have e := of_decide_eq_true h5
              subst e
              exact r_meth1 PySem.F.slot_list_append PySem.F.type_list_append mt_append (fun b S d e v vs H Q a1 a2 a3 a4 => mt_appendD b S d [e] v vs H Q a1 a2 a3 a4) (base_of h3) h4 (star_of h77) qo qe
            · have e := of_decide_eq_true h5
              subst e
              exact r_meth1 PySem.F.slot_list_extend PySem.F.type_list_extend mt_extA (fun b S d e v vs H Q a1 a2 a3 a4 => mt_extendD b S d [e] v vs H Q a1 a2 a3 a4) (base_of h3) h4 (star_of h77) qo qe
            · have e := of_decide_eq_true h5
              subst e
              exact r_meth1 PySem.F.slot_list_pop PySem.F.type_list_pop mt_popAt (fun b S d e v vs H Q a1 a2 a3 a4 => mt_popAtD a1 a2 a3 a4) (base_of h3) h4 (star_of h77) qo qe
      · cases h5
    · cases h
theorem sEs {X : Cx} {c : MC} {W : WX} (g : GX X c C W) : ∀ (es : Exs) (pes : List Expr), mEs c es pes = true → PA X pes (tA X W (evs C es)) ∧ ∀ pe ∈ pes, notStar pe = true
  | .nil, pes, h => by
    unfold mEs at h
    split at h
    · exact ⟨r_nil C, fun _ h => nomatch h⟩
    · cases h
  | .cons e r, pes, h => by
    unfold mEs at h
    split at h
    · obtain ⟨h, h3⟩ := ande h
      obtain ⟨h1, h2⟩ := ande h
      obtain ⟨q1, q2⟩ := sEs g r _ h3
      refine ⟨r_cons ((sE g false e _ h2).1 rfl) q1 (star_of h1), fun pe hp => ?_⟩
      rcases List.mem_cons.mp hp with e | hp
      · rw [e]; exact h1
      · exact q2 pe hp
    · cases h
theorem sKs {X : Cx} {c : MC} {W : WX} (g : GX X c C W) : ∀ (es : Exs) (pes : List Expr) (kws : List Keyword), mKs c es pes kws = true → ∃ a b : Exs, es = a.app b ∧ PA X pes (tA X W (evs C a)) ∧ PK X kws (tA X W (evs C b)) ∧ a.len = pes.length ∧ b.len = kws.length ∧ ∀ pe ∈ pes, notStar pe = true
  | .nil, pes, kws, h => by
    unfold mKs at h
    split at h
    · exact ⟨.nil, .nil, rfl, r_nil C, rk_nil0, rfl, rfl, fun _ h => nomatch h⟩
    · cases h
  | .cons e r, pes, kws, h => by
    unfold mKs at h
    split at h
    · obtain ⟨h, h3⟩ := ande h
      obtain ⟨h1, h2⟩ := ande h
      obtain ⟨a, b, he, qa, qb, la, lb, hst⟩ := sKs g r _ _ h3
      subst he
      refine ⟨.cons e a, b, rfl, r_cons ((sE g false e _ h2).1 rfl) qa (star_of h1), qb, congrArg Nat.succ la, lb, fun pe hp => ?_⟩
      rcases List.mem_cons.mp hp with e | hp
      · rw [e]; exact h1
      · exact hst pe hp
    · rename_i k kws
      obtain ⟨nm, v, kp⟩ := k
      obtain ⟨h1, h2⟩ := ande h
      obtain ⟨a, b, he, qa, qb, la, lb, hst⟩ := sKs g r _ _ h2
      subst he
      cases a with
      | cons e a => cases la
      | nil => exact ⟨.nil, .cons e b, rfl, r_nil C, rk_cons ((sE g false e _ h1).1 rfl) qb, rfl, congrArg Nat.succ lb, fun _ h => nomatch h⟩
    · cases h
theorem sO {X : Cx} {c : MC} {W : WX} (g : GX X c C W) : ∀ (e : Option Ex) (pe : Option Expr), mO c e pe = true → PO X pe (tO X W (evO C e))
  | none, pe, h => by
    unfold mO at h
    split at h
    · exact r_none C
    · cases h
  | some e, pe, h => by
    unfold mO at h
    split at h
    · exact r_some ((sE g false e _ h).1 rfl)
    · cases h
theorem sTs {X : Cx} {c : MC} {W : WX} (g : GX X c C W) : ∀ (es : Exs) (pes : List Expr), mTs c es pes = true → PTs X pes (tB X W (evTs C es))
  | .nil, pes, h => by
    unfold mTs at h
    split at h
    · exact ts_nil C
    · cases h
  | .cons e r, pes, h => by
    unfold mTs at h
    split at h
    · exact ts_one ((sE g true e _ h).2 rfl)
    · cases h
theorem sI {X : Cx} {c : MC} {W : WX} (g : GX X c C W) : ∀ (it : Iq) (tg pe : Expr), mI c it tg pe = true → PI X tg pe (tI X W (evI C it))
  | .val e, tg, pe, h => by
    unfold mI at h
    exact i_val ((sE g false e _ h).1 rfl)
  | .str e, tg, pe, h => by
    unfold mI at h
    exact i_str ((sE g false e _ h).1 rfl)
  | .range es, tg, pe, h => by
    unfold mI at h
    split at h
    · obtain ⟨h, h4⟩ := ande h
      obtain ⟨h, h3⟩ := ande h
      obtain ⟨h1, h2⟩ := ande h
      have e := of_decide_eq_true h1
      subst e
      obtain ⟨q1, q2⟩ := g.bX h2
      cases es with
      | nil => rcases (Bool.or_eq_true _ _).mp h3 with h | h <;> exact absurd (of_decide_eq_true h) (by simp [Exs.len])
      | cons e r =>
        unfold mEs at h4
        split at h4
        · obtain ⟨h4, k3⟩ := ande h4
          obtain ⟨k1, k2⟩ := ande h4
          have qe := (sE g false e _ k2).1 rfl
          cases r with
          | nil =>
            unfold mEs at k3
            split at k3
            · exact i_range1 q1 q2 (star_of k1) qe
            · cases k3
          | cons e' r =>
            unfold mEs at k3
            split at k3
            · obtain ⟨k3, l3⟩ := ande k3
              obtain ⟨l1, l2⟩ := ande k3
              have qe' := (sE g false e' _ l2).1 rfl
              cases r with
              | nil =>
                unfold mEs at l3
                split at l3
                · exact i_range2 q1 q2 (star_of k1) (star_of l1) qe qe'
                · cases l3
              | cons e2 r2 => rcases (Bool.or_eq_true _ _).mp h3 with h | h <;> exact absurd (of_decide_eq_true h) (by simp [Exs.len])
            · cases k3
        · cases h4
    · cases h
  | .enum e, tg, pe, h => by
    unfold mI at h
    split at h
    · obtain ⟨h, h5⟩ := ande h
      obtain ⟨h, h4⟩ := ande h
      obtain ⟨h, h3⟩ := ande h
      obtain ⟨h1, h2⟩ := ande h
      have e := of_decide_eq_true h1
      subst e
      obtain ⟨q1, q2⟩ := g.bX h2
      have qe := (sE g false e _ h5).1 rfl
      cases tg <;> first | (cases h3; done) | skip
      exact i_enum q1 q2 (star_of h4) qe
    · cases h
  | .zip a b, tg, pe, h => by
    unfold mI at h
    split at h
    · obtain ⟨h, h7⟩ := ande h
      obtain ⟨h, h6⟩ := ande h
      obtain ⟨h, h5⟩ := ande h
      obtain ⟨h, h4⟩ := ande h
      obtain ⟨h, h3⟩ := ande h
      obtain ⟨h1, h2⟩ := ande h
      have e := of_decide_eq_true h1
      subst e
      obtain ⟨q1, q2⟩ := g.bX h2
      have qa := (sE g false a _ h6).1 rfl
      have qb := (sE g false b _ h7).1 rfl
      cases tg <;> first | (cases h3; done) | skip
      exact i_zip q1 q2 (star_of h4) (star_of h5) qa qb
    · cases h
end
end
end DL
/-! DL14: the matcher and its soundness, statements. -/
namespace DL
open PySem PySem.Spec L2
open PyProof.Rows hiding St

def isComp : Expr → Bool
  | .ListComp _ _ _ _ => true
  | .SetComp _ _ _ _ => true
  | .DictComp _ _ _ _ _ => true
  | _ => false
def isTup : Expr → Bool
  | .Tuple _ _ _ => true
  | _ => false
def isNm : Expr → Bool
  | .Name _ _ => true
  | _ => false
/-- the targets that may be stored the other way round -/
def swNames (c : MC) (ts : List Expr) : List Str := ts.filterMap fun
  | .Name id pos => if decide (c.sc.names.lookup id = some .local) && pos.line == ((ts.head?.map (·.pos.line)).getD 0) then some id else none
  | _ => none
def swNone (c : MC) (ts : List Expr) : Expr → Bool
  | .Tuple vs _ _ => vs.length != ts.length || (swNames c ts).length != ts.length
  | _ => true
def swBoth (vs : List Expr) : Bool := !(vs.any fun | .Starred .. => true | _ => false) && !(vs.all (foldedForSure 8)) && !(vs.all (constantsAlone 8))
/-- a target of a statement -/
def mTg (c : MC) : Tg → Expr → Bool
  | .name i, .Name x _ => decide (c.N[i]? = some x) && c.loc x
  | .tup is, .Tuple es _ _ => mNames c is es
  | .ix o i, .Subscript po pi _ => notSlice pi && mE c false o po && mE c false i pi
  | _, _ => false
def mAsg (c : MC) (t : Tg) (e : Ex) (pt pe : Expr) (line : Nat) : Bool := match t, pt with
  | .name i, .Name x px => if isComp pe then (match pe with
      | .ListComp _ _ scope pos => decide (c.sc.names.lookup x = some .cell) || c.isLocal x && (px.line == pos.line) && !(scope.names.any fun (n, k) => n == x && (k == .local || k == .cell)) && (match c.blk with
        | none => true
        | some _ => false)
      | _ => false) else true
  | .tup _, .Tuple ts _ _ => swNone c ts pe
  | .ix _ _, .Subscript _ _ _ => true
  | _, _ => false
mutual
def mS (c : MC) : Sm → Stmt → Bool
  | .asg t e, ps => (match ps with
    | .Assign [pt] pe pos => mAsg c t e pt pe pos.line && mTg c t pt && mE c false e pe
    | _ => false)
  | .expr e, ps => (match ps with
    | .Expr pe _ => !isComp pe && mE c false e pe
    | _ => false)
  | .ret e, ps => (match ps with
    | .Return (some pe) _ => mE c false e pe
    | .Return none _ => (match e with
      | .con .non => true
      | _ => false)
    | _ => false)
  | .ite k a b, ps => (match ps with
    | .If pk pa pb _ => mE c true k pk && mB c a pa && mB c b pb
    | _ => false)
  | .for_ t it b, ps => (match ps with
    | .For pt pit pb [] _ => mTg c t pt && notSet pit && mI c it pt pit && mB c b pb
    | _ => false)
  | .while_ k b, ps => (match ps with
    | .While pk pb [] _ => mE c true k pk && mB c b pb
    | _ => false)
  | .brk, ps => (match ps with
    | .Break _ => true
    | _ => false)
  | .cont, ps => (match ps with
    | .Continue _ => true
    | _ => false)
  | .pass, ps => (match ps with
    | .Pass _ => true
    | _ => false)
  | .par i j a b, ps => (match ps with
    | .Assign [.Tuple [.Name x px, .Name y py] _ _] (.Tuple [pa, pb] _ _) _ => decide (c.N[i]? = some x) && decide (c.N[j]? = some y) && decide (i ≠ j) && c.isLocal x && c.isLocal y && (px.line == py.line) && !(x == y) && swBoth [pa, pb] && mE c false a pa && mE c false b pb
    | _ => false)
  | .raise x es, ps => (match ps with
    | .Raise (some (.Call (.Name y _) [] [] _)) none _ => decide (x = y) && c.isGl x && c.g.cls.contains x && (match es with
      | .nil => true
      | _ => false)
    | _ => false)
def mB (c : MC) : Sms → List Stmt → Bool
  | .nil, ps => (match ps with
    | [] => true
    | _ => false)
  | .cons s r, ps => (match ps with
    | p :: pr => mS c s p && mB c r pr
    | _ => false)
end
section
variable {C : EvC} {X : Cx} {c : MC} {W : WX}
theorem sw_no {pe : Expr} {t : Option Expr} {l : Nat} {env : Env} (h : isComp pe = false) : swapsWith pe t l env = pure false := by
  cases pe <;> first | rfl | cases h
theorem sw_cell {x : Str} {pe : Expr} {px : Pos} {l : Nat} {env : Env} (h : env.kindOf x = some .cell) : swapsWith pe (some (.Name x px)) l env = pure false := by
  have e : (env.kindOf x == some NameKind.local) = false := by rw [h]; rfl
  cases pe <;> first
    | rfl
    | (unfold swapsWith
       simp only [e, Bool.and_false, Bool.false_and])
theorem sole {t v : Expr} {l : Nat} {env : Env} : swapsWithSole [t] v l env = swapsWith v (some t) l env := rfl
theorem sw_tup {pe : Expr} {ts : List Expr} {k : Nat} {p : Pos} {l : Nat} {env : Env} : swapsWith pe (some (.Tuple ts k p)) l env = pure false := by
  cases pe <;> rfl
theorem sw_sub {pe po pi : Expr} {p : Pos} {l : Nat} {env : Env} : swapsWith pe (some (.Subscript po pi p)) l env = pure false := by
  cases pe <;> rfl
theorem ss_none (g : GX X c C W) {ts : List Expr} {k : Nat} {p : Pos} {pe : Expr} (h : swNone c ts pe = true) : swappedStores [.Tuple ts k p] pe X.env = pure none := by
  have hk : ∀ x : Str, X.env.kindOf x = c.sc.names.lookup x := fun x => by show X.env.scope.names.lookup x = _; rw [g.sc]
  unfold swNone at h
  split at h
  · rename_i vs k2 p2
    unfold swappedStores
    simp only
    split
    · rfl
    · rename_i h1
      split
      · rfl
      · rw [Bool.or_eq_true] at h
        rcases h with h | h
        · exact absurd (by rw [Bool.or_eq_true, Bool.or_eq_true]; exact .inl (.inr h)) h1
        · have e : (ts.filterMap fun
              | .Name id pos => if X.env.kindOf id == some .local && pos.line == ((ts.head?.map (·.pos.line)).getD 0) then some id else none
              | _ => none) = swNames c ts := by
            unfold swNames
            congr 1
            funext x
            cases x <;> try rfl
            rename_i id pos
            simp only [hk]
            congr 1
            cases q : c.sc.names.lookup id with
            | none => rfl
            | some kk => cases kk <;> rfl
          rw [← e] at h
          exact if_pos ((Bool.or_eq_true _ _).mpr (.inl h))
  · cases pe <;> first | rfl | (rename_i h'; exact absurd rfl (h' _ _ _))
theorem blockFn (hk : X.env.scope.kind = .function) : X.env.blockKind = .function := by unfold Env.blockKind; rw [hk]; rfl
theorem ss_both (g : GX X c C W) (hkf : X.env.scope.kind = .function) {x y : Str} {px py pt pt2 : Pos} {kt k2 : Nat} {pa pb : Expr} (hx : c.isLocal x = true) (hy : c.isLocal y = true) (hl : (px.line == py.line) = true) (hxy : (!(x == y)) = true) (h : swBoth [pa, pb] = true) :
    swappedStores [.Tuple [.Name x px, .Name y py] kt pt] (.Tuple [pa, pb] k2 pt2) X.env = pure (some [x, y]) := by
  have hk : ∀ x : Str, c.isLocal x = true → X.env.kindOf x = some .local := fun x h => by show X.env.scope.names.lookup x = _; rw [g.sc]; exact of_decide_eq_true h
  unfold swBoth at h
  obtain ⟨h, h3⟩ := ande h
  obtain ⟨h1, h2⟩ := ande h
  rw [Bool.not_eq_true'] at h1 h2 h3 hxy
  have hb := blockFn hkf
  have e1 : (px.line == px.line) = true := beq_self_eq_true _
  have e2 : (py.line == px.line) = true := by rw [eq_of_beq hl]; exact beq_self_eq_true _
  have hyx : (y == x) = false := by
    cases q : y == x with
    | false => rfl
    | true => rw [eq_of_beq q, beq_self_eq_true] at hxy; cases hxy
  have el : (X.env.kindOf x == some NameKind.local) = true := by rw [hk x hx]; rfl
  have el2 : (X.env.kindOf y == some NameKind.local) = true := by rw [hk y hy]; rfl
  have en : ([Expr.Name x px, Expr.Name y py].filterMap fun
      | .Name id pos => if X.env.kindOf id == some .local && pos.line == px.line then some id else none
      | _ => none) = [x, y] := by
    simp only [List.filterMap_cons, List.filterMap_nil, el, el2, e1, e2, Bool.and_self, if_true]
  have ed : [x, y].eraseDups = [x, y] := by simp [List.eraseDups, List.eraseDupsBy, List.eraseDupsBy.loop, hyx]
  have k1 : ¬ ((!(2 == 2 || 2 == 3) || 2 != 2 || X.env.blockKind != .function) = true) := by rw [hb]; decide
  have k2 : ¬ (([x, y].length != 2 || [x, y].eraseDups.length != [x, y].length) = true) := by rw [ed]; exact Bool.false_ne_true
  unfold swappedStores
  refine (if_neg k1).trans ((if_neg (fun z => Bool.false_ne_true (h1.symm.trans z))).trans ?_)
  refine Eq.trans (b := if ([x, y].length != 2 || [x, y].eraseDups.length != [x, y].length) = true then pure none else if [pa, pb].all (foldedForSure 8) = true then pure none else if [pa, pb].all (constantsAlone 8) = true then unsupported "assign.tuple-of-constant-expressions:order-of-the-stores" else pure (some [x, y])) ?_ ?_
  · rw [← en]
    rfl
  · rw [if_neg k2, h2, h3]
    rfl
theorem st_tgS (g : GX X c C W) : ∀ {tg : Tg} {pt : Expr}, mTg c tg pt = true → PG X pt (tG X W (evG C tg)) := by
  intro tg pt h
  unfold mTg at h
  split at h
  · obtain ⟨h1, h2⟩ := ande h
    obtain ⟨q1, q2⟩ := g.locX h2
    exact g_name g.nd (g.ix h1) q1 q2
  · exact g_tup g.calm g.nd (names_of g h)
  · obtain ⟨h, h3⟩ := ande h
    obtain ⟨h1, h2⟩ := ande h
    exact g_ix h1 ((sE g false _ _ h2).1 rfl) ((sE g false _ _ h3).1 rfl)
  · cases h
theorem st_asg (g : GX X c C W) (hkf : X.env.scope.kind = .function) {t : Tg} {e : Ex} {pt pe : Expr} {pos : Pos} (h1 : mAsg c t e pt pe pos.line = true) (h2 : mTg c t pt = true) (h3 : mE c false e pe = true) : PS X (.Assign [pt] pe pos) (tS X W (evS C (.asg t e))) := by
  have qe := (sE g false e pe h3).1 rfl
  have qt := st_tgS g h2
  unfold mAsg at h1
  split at h1
  · rename_i i x px
    cases hc : isComp pe with
    | false => exact s_asg qe qt (sole.trans (sw_no hc)) (by cases pe <;> rfl) rfl
    | true =>
      rw [hc, if_pos rfl] at h1
      split at h1
      · rename_i pelt gens scope pos'
        rw [Bool.or_eq_true] at h1
        rcases h1 with h1 | h1
        · exact s_asg qe qt (sole.trans (sw_cell (by show X.env.scope.names.lookup x = _; rw [g.sc]; exact of_decide_eq_true h1))) rfl rfl
        obtain ⟨h1, k4⟩ := ande h1
        obtain ⟨h1, k3⟩ := ande h1
        obtain ⟨k1, k2⟩ := ande h1
        rw [Bool.not_eq_true'] at k3
        have kl : X.env.scope.names.lookup x = some .local := by rw [g.sc]; exact of_decide_eq_true k1
        unfold mTg at h2
        simp only at h2
        obtain ⟨l1, l2⟩ := ande h2
        cases e with
        | lc m elt tg it ifs own =>
          unfold mE at h3
          split at h3
          · rename_i pelt2 ptg piter pifs scope2 pos2 heq
            cases heq
            obtain ⟨h, h8⟩ := ande h3
            obtain ⟨h, h7⟩ := ande h
            obtain ⟨h, h6⟩ := ande h
            obtain ⟨h, h5⟩ := ande h
            obtain ⟨h, h4⟩ := ande h
            obtain ⟨h, h3⟩ := ande h
            obtain ⟨h1, h2⟩ := ande h
            have e := of_decide_eq_true h3
            obtain ⟨G, t1, t2, t3⟩ := st_tg g h4
            have ok : BlkOk X.N X.env.scope scope (ownP c.N own) := by rw [g.hN, g.sc]; exact blkOk_by h2
            have q := s_setLc (m := m) (pos := pos') (spos := pos) (py := px) (own := ownP c.N own) g.w g.calm g.nd (g.ix l1) kl (sw_true hkf kl k2 k3) ok (by rw [e]; exact t1) t2 (sI g it _ _ h6) t3 (fun s H A cl fp => sTs (g.blk _ s H A cl fp) ifs _ h7) (fun s H A cl fp => (sE (g.blk _ s H A cl fp) false elt _ h8).1 rfl) (set_of h5)
            rw [e] at q
            exact q
          · cases h3
        | _ => unfold mE at h3; first | (cases h3; done) | (split at h3 <;> first | (rename_i heq; cases heq; done) | (cases h3; done))
      · cases h1
  · exact s_asg qe qt (sole.trans sw_tup) (ss_none g h1) rfl
  · exact s_asg qe qt (sole.trans sw_sub) rfl rfl
  · cases h1
mutual
theorem sS (g : GX X c C W) (po : PassesOwn (model X.prog X.w) X.A X.env X.xe) (hkf : X.env.scope.kind = .function) : ∀ (s : Sm) (ps : Stmt), mS c s ps = true → PS X ps (tS X W (evS C s))
  | .asg t e, ps, h => by
    unfold mS at h
    split at h
    · obtain ⟨h, h3⟩ := ande h
      obtain ⟨h1, h2⟩ := ande h
      exact st_asg g hkf h1 h2 h3
    · cases h
  | .expr e, ps, h => by
    unfold mS at h
    split at h
    · obtain ⟨h1, h2⟩ := ande h
      rw [Bool.not_eq_true'] at h1
      exact s_expr ((sE g false e _ h2).1 rfl) (sw_no h1)
    · cases h
  | .ret e, ps, h => by
    unfold mS at h
    split at h
    · exact s_ret ((sE g false e _ h).1 rfl)
    · split at h
      · exact s_retN
      · cases h
    · cases h
  | .ite k a b, ps, h => by
    unfold mS at h
    split at h
    · obtain ⟨h, h3⟩ := ande h
      obtain ⟨h1, h2⟩ := ande h
      exact s_if ((sE g true k _ h1).2 rfl) (sB g po hkf a _ h2) (sB g po hkf b _ h3)
    · cases h
  | .for_ t it b, ps, h => by
    unfold mS at h
    split at h
    · obtain ⟨h, h4⟩ := ande h
      obtain ⟨h, h3⟩ := ande h
      obtain ⟨h1, h2⟩ := ande h
      exact s_for po g.calm (sI g it _ _ h3) (st_tgS g h1) (sB g po hkf b _ h4) (set_of h2)
    · cases h
  | .while_ k b, ps, h => by
    unfold mS at h
    split at h
    · obtain ⟨h1, h2⟩ := ande h
      exact s_while po ((sE g true k _ h1).2 rfl) (sB g po hkf b _ h2)
    · cases h
  | .brk, ps, h => by
    unfold mS at h
    split at h
    · exact s_brk
    · cases h
  | .cont, ps, h => by
    unfold mS at h
    split at h
    · exact s_cont
    · cases h
  | .pass, ps, h => by
    unfold mS at h
    split at h
    · exact s_pass
    · cases h
  | .par i j a b, ps, h => by
    unfold mS at h
    split at h
    · obtain ⟨h, h10⟩ := ande h
      obtain ⟨h, h9⟩ := ande h
      obtain ⟨h, h8⟩ := ande h
      obtain ⟨h, h7⟩ := ande h
      obtain ⟨h, h6⟩ := ande h
      obtain ⟨h, h5⟩ := ande h
      obtain ⟨h, h4⟩ := ande h
      obtain ⟨h, h3⟩ := ande h
      obtain ⟨h1, h2⟩ := ande h
      have hs : ∀ {pe : Expr}, (∀ v p, pe ≠ .Starred v p) → notStar pe = true := fun {pe} q => by
        cases pe <;> first | rfl | exact absurd rfl (q _ _)
      have h8' := h8
      unfold swBoth at h8'
      obtain ⟨h8', _⟩ := ande h8'
      obtain ⟨h8', _⟩ := ande h8'
      rw [Bool.not_eq_true'] at h8'
      simp only [List.any_cons, List.any_nil, Bool.or_false, Bool.or_eq_false_iff] at h8'
      refine s_par g.calm g.nd (g.ix h1) (g.ix h2) (of_decide_eq_true h3) (by rw [g.sc]; exact of_decide_eq_true h4) (by rw [g.sc]; exact of_decide_eq_true h5) ?_ (ss_both g hkf h4 h5 h6 h7 h8) (sole.trans sw_tup)
      refine r_cons ((sE g false a _ h9).1 rfl) (r_cons ((sE g false b _ h10).1 rfl) (r_nil C) (star_of (hs fun v p e => ?_))) (star_of (hs fun v p e => ?_))
      · subst e; cases h8'.2
      · subst e; cases h8'.1
    · cases h
  | .raise x es, ps, h => by
    unfold mS at h
    split at h
    · obtain ⟨h, h4⟩ := ande h
      obtain ⟨h, h3⟩ := ande h
      obtain ⟨h1, h2⟩ := ande h
      have e := of_decide_eq_true h1
      subst e
      split at h4
      · exact s_raise g.calm g.tk (g.xc _ (List.contains_iff_mem.mp h3)) (g.gl h2)
      · cases h4
    · cases h
theorem sB (g : GX X c C W) (po : PassesOwn (model X.prog X.w) X.A X.env X.xe) (hkf : X.env.scope.kind = .function) : ∀ (s : Sms) (ps : List Stmt), mB c s ps = true → PSs X ps (tS X W (evB C s))
  | .nil, ps, h => by
    unfold mB at h
    split at h
    · exact s_nil
    · cases h
  | .cons s r, ps, h => by
    unfold mB at h
    split at h
    · obtain ⟨h1, h2⟩ := ande h
      exact s_cons (sS g po hkf s _ h1) (sB g po hkf r _ h2)
    · cases h
end
end
end DL
/-! DL15: all defs keep their promises. -/
namespace DL
open PySem PySem.Spec L2
open PyProof.Rows hiding St
section
variable {K : PySem.W.Frag} {mg : Str → Option Value} {b b' : Bt} {H H' : Hp}
/-! ### freezing -/
mutual
theorem frzR_RD {b0 : Bt} {f : Nat → Option D} (hav : ∀ a ∈ b0.av, a ∈ b'.av) (hf : ∀ n d a, f n = some d → b'.β[n]? = some a → RD K mg b0 H' d (.ref a)) : ∀ {x y : D} {v : V}, frzR f x = some y → RD K mg b' H' x v → RD K mg b0 H' y v
  | .non, _, _, e, .non => by cases e; exact .non
  | .bl k, _, _, e, .bl _ => by cases e; exact .bl k
  | .int k, _, _, e, .int _ => by cases e; exact .int k
  | .str k, _, _, e, .str _ => by cases e; exact .str k
  | .tup xs, _, _, e, .tup g r => by
    unfold frzR at e
    cases q : frzRs f xs with
    | none => rw [q] at e; cases e
    | some ys =>
      rw [q] at e
      cases e
      refine .tup ?_ (frzRs_RD hav hf q r)
      rcases g with ⟨g, n⟩ | g
      · exact .inl ⟨g, fun z => n (hav _ z)⟩
      · exact .inr g
  | .lst xs, _, _, e, .lst ⟨g, n⟩ r => by
    unfold frzR at e
    cases q : frzRs f xs with
    | none => rw [q] at e; cases e
    | some ys =>
      rw [q] at e
      cases e
      exact .lst ⟨g, fun z => n (hav _ z)⟩ (frzRs_RD hav hf q r)
  | .kl xs, _, _, e, .kl g r => by
    unfold frzR at e
    cases q : frzRs f xs with
    | none => rw [q] at e; cases e
    | some ys =>
      rw [q] at e
      cases e
      refine .kl ?_ (frzRs_RD hav hf q r)
      rcases g with ⟨g, n⟩ | g
      · exact .inl ⟨g, fun z => n (hav _ z)⟩
      · exact .inr g
  | .ref n, _, _, e, .ref h => hf _ _ _ e h
  | .fn x, _, _, e, .fn h => by cases e; exact .fn h
theorem frzRs_RD {b0 : Bt} {f : Nat → Option D} (hav : ∀ a ∈ b0.av, a ∈ b'.av) (hf : ∀ n d a, f n = some d → b'.β[n]? = some a → RD K mg b0 H' d (.ref a)) : ∀ {x y : List D} {v : List V}, frzRs f x = some y → RDs K mg b' H' x v → RDs K mg b0 H' y v
  | [], _, _, e, .nil => by cases e; exact .nil
  | x :: xs, _, _, e, .cons h r => by
    unfold frzRs at e
    split at e
    · rename_i y1 ys q1 q2
      cases e
      exact .cons (frzR_RD hav hf q1 h) (frzRs_RD hav hf q2 r)
    · cases e
end
/-- what a def that was run apart tells -/
theorem frz_RD {b0 : Bt} {S : Store} (hav : ∀ a ∈ b0.av, a ∈ b'.av) (hβ : ∀ a ∈ b'.β, a ∉ b0.av) (s : SR K mg b' S H') : ∀ (k : Nat) {x y : D} {v : V}, frz k S x = some y → RD K mg b' H' x v → RD K mg b0 H' y v
  | 0, x, y, v, e, r => frzR_RD hav (fun _ _ _ e _ => by cases e) e r
  | k + 1, x, y, v, e, r => by
    refine frzR_RD hav (fun n d a e h => ?_) e r
    split at e
    · rename_i xs q
      cases q2 : frzRs (fun m => frz k S (.ref m)) xs with
      | none => rw [q2] at e; cases e
      | some ys =>
        rw [q2] at e
        cases e
        obtain ⟨vs, h1, r1⟩ := s.obj _ _ _ q h
        exact .lst ⟨h1, hβ _ (List.mem_of_getElem? h)⟩ (frzRs_RD hav (fun m d a2 e h2 => frz_RD hav hβ s k e (.ref h2)) q2 r1)
    · cases e
mutual
/-- data without references stand wherever the store lies -/
theorem RD.bare {x : D} {v : V} : x.pure = true → RD K mg b H x v → RD K mg ⟨[], b.av⟩ H x v
  | _, .non => .non
  | _, .bl k => .bl k
  | _, .int k => .int k
  | _, .str k => .str k
  | h, .tup g r => .tup g (RDs.bare h r)
  | h, .lst g r => .lst g (RDs.bare h r)
  | h, .kl g r => .kl g (RDs.bare h r)
  | h, .ref _ => by cases h
  | _, .fn e => .fn e
theorem RDs.bare {x : List D} {v : List V} : D.pures x = true → RDs K mg b H x v → RDs K mg ⟨[], b.av⟩ H x v
  | _, .nil => .nil
  | h, .cons a r => by
    unfold D.pures at h
    obtain ⟨h1, h2⟩ := ande h
    exact .cons (RD.bare h1 a) (RDs.bare h2 r)
end
theorem SR.bare {S : Store} (s : SR K mg b S H) : SR K mg ⟨[], b.av⟩ [] H := ⟨rfl, List.nodup_nil, fun _ h => (List.not_mem_nil h).elim, s.own, fun n o a h => by simp at h⟩
/-- the end of a run apart, back in the caller's store -/
theorem SR.back {S S1 : Store} (s : SR K mg b S H) (x : Ext ⟨[], b.av⟩ H b' H') : Ext b H b H' ∧ SR K mg b S H' := by
  have e : Ext b H b H' := ⟨⟨[], [], by simp, by simp, nil_none, nil_none⟩, fun a o h _ => x.keep a o h (fun z => (List.not_mem_nil z).elim), x.there⟩
  refine ⟨e, s.len, s.nd, s.sub, fun a ha => x.there a (s.own a ha), fun n o a h1 h2 => ?_⟩
  have q := s.obj n o a h1 h2
  have hk : ∀ a o, H a = some o → H' a = some o := fun a o h => x.keep a o h fun z => (List.not_mem_nil z).elim
  cases o with
  | lst xs => obtain ⟨vs, k1, r⟩ := q; exact ⟨vs, hk _ _ k1, r.mono e s.sub⟩
  | dic kvs => obtain ⟨kvs', k1, k, r⟩ := q; exact ⟨kvs', hk _ _ k1, k, r.mono e s.sub⟩
  | ins C fs => obtain ⟨Ca, dx, fs', k1, m, k, r⟩ := q; exact ⟨Ca, dx, fs', hk _ _ k1, m, k, r.mono e s.sub⟩
end

/-! ### a table of defs -/
structure DT where
  name : Str
  ps : List Str
  N : List Str
  kw : List (Nat × List Str × List Nat)
  pur : Bool
  body : Sms
  st : Stmt
def DT.fd (d : DT) : FD := ⟨d.ps.length, d.N.length, d.pur, d.body⟩
def tblOf (l : List DT) : Tbl := fun i => (l[i]?).map DT.fd
def fnsOf (l : List DT) : List (Str × List Str × List (Nat × List Str × List Nat)) := l.map fun d => (d.name, d.ps, d.kw)
abbrev BindE (d : DT) (kV doc pm : Value) (an : Option Addr) (cdv ct : Value) (args : Args) : Sem (List (Str × Value)) := bindArgs (PySem.W.fnOf d.name d.name (defArgs d.st) (defBody d.st) (defScope d.st) .none kV doc pm an cdv ct) args
structure DOk (g : Glo) (d : DT) : Prop where
  sc : C8.scC d.N d.ps (defScope d.st) = true
  m : mB ⟨d.N, defScope d.st, none, g⟩ d.body (defBody d.st) = true
  dbg : notDbg d.name = true
  bnd : ∀ (kV doc pm : Value) (an : Option Addr) (cdv ct : Value) (us : List Value), us.length = d.ps.length → BindE d kV doc pm an cdv ct ⟨us, []⟩ = pure (d.ps.zip us)
  kw : ∀ q ∈ d.kw, (q.1 + q.2.1.length = q.2.2.length ∧ q.2.2.length = d.ps.length ∧ ∀ j ∈ q.2.2, j < d.ps.length) ∧
    ∀ (kV doc pm : Value) (an : Option Addr) (cdv ct : Value) (us ws : List Value), us.length = q.1 → ws.length = q.2.1.length → BindE d kV doc pm an cdv ct ⟨us, q.2.1.zip ws⟩ = pure (d.ps.zip (q.2.2.filterMap fun j => (us ++ ws)[j]?))
/-- the module's facts that the walk asks -/
structure Facts (P : Program) (w : World) (K : PySem.W.Frag) (mg : Str → Option Value) (g : Glo) (l : List DT) (cn : Str → Option D) : Prop where
  fns : ∀ (i : Nat) d, l[i]? = some d → ∃ addr fd, FunD K d.name d.name (defArgs d.st) (defBody d.st) (defScope d.st) [] [] addr fd ∧ mg d.name = some (.ref addr)
  xc : ∀ x ∈ g.cls, (∃ (a : Addr) (B newId initId : String) (bmB : List Value), ExcBaseFacts B newId initId bmB ∧ PySem.W.excIn K a bmB newId = true ∧ mg x = some (.ref a) ∧ PySem.W.keepIn K (.ref a) = true ∧
    PySem.W.subIn K (.ref a) (.type "BaseException") = some true ∧ PySem.W.typeIn K (.ref a) = some (.type "type")) ∧ notDbg x = true
  cns : ∀ x ∈ g.cns, ∃ (u : Value) (v : V), mg x = some u ∧ RelV v u ∧ ∀ d, cn x = some d → ∀ b H, RD K mg b H d v
  bns : ∀ x ∈ g.bns, mg x = none
section
variable {P : Program} {w : World} {K : PySem.W.Frag} {mg : Str → Option Value} {base : Heap} {g : Glo} {l : List DT} {cn : Str → Option D} {n0 : Nat}
theorem start_env {b : Bt} {H : Hp} {ds : List D} {vs : List V} {N : List Str} (r : RDs K mg b H ds vs) {np : Nat} (hl : ds.length = np) : EnvR K mg b H (ds.map some ++ List.replicate (N.length - np) none) (L2.start N vs) := by
  have hv := r.length
  unfold L2.start
  refine ⟨by simp only [List.length_append, List.length_map, List.length_replicate]; omega, fun i d e => ?_⟩
  by_cases hi : i < ds.length
  · rw [List.getElem?_append_left (by simpa using hi), List.getElem?_map] at e
    cases q : ds[i]? with
    | none => rw [q] at e; cases e
    | some d' =>
      rw [q] at e
      cases e
      obtain ⟨v, e1, h⟩ := r.get q
      exact ⟨v, by rw [List.getElem?_append_left (by rw [List.length_map]; omega), List.getElem?_map, e1]; rfl, h⟩
  · rw [List.getElem?_append_right (by simpa using hi)] at e
    rw [List.getElem?_replicate] at e
    split at e <;> cases e
/-- a run's end -/
theorem endO {X : Cx} {b : Bt} {H : Hp} {Q : VK} {E : XK} : ∀ {o : Out}, finD0 X.K X.mg b H Q E (endD o) → finO X b H { nx := fun _ H' => Q .non H', rt := Q } (fun c d _ H' => E c d H') o
  | .nx ρ S, h => fun b' σ' H' x a => h b' H' .non x a.sr .non
  | .rt d S, h => fun b' H' v x s r => h b' H' v x s r
  | .exn x ρ S, h => fun b' σ' H' c d y a r => h b' H' c d y a.sr r
  | .bk _ _, h => h.elim
  | .ct _ _, h => h.elim
  | .bad, h => h.elim
theorem fn_all (hT : l.length = l.length) (hg : g.fns = fnsOf l) (hok : ∀ d ∈ l, DOk g d) (hF : Facts P w K mg g l cn) (hw : n0 ≤ 16777216) :
    ∀ (n : Nat) (i : Nat) (d : DT) (addr : Addr) (fd : FuncData), l[i]? = some d → FunD K d.name d.name (defArgs d.st) (defBody d.st) (defScope d.st) [] [] addr fd → FnOk P w K mg base (L2.CX P w) n addr fd d.ps (spG K mg (callN (tblOf l) cn n0 n) i d.ps.length)
  | 0, i, d, addr, fd, _, _ => ⟨fun vs H Q E h => h.1, fun A outer s H args us vs Q E _ _ _ _ h => by
      obtain ⟨_, b, S, ds, _, _, h⟩ := h
      exact h.elim⟩
  | n + 1, i, d, addr, fd, hi, F => by
    have dok := hok d (List.mem_of_getElem? hi)
    have S := C8.fnScope_by dok.sc
    refine F.ok S (fun vs H Q E h => h.1) fun cdv A outer s H vs Q E hr h => ?_
    obtain ⟨hl, b, St, ds, sr, rd, h⟩ := h
    let C : EvC := ⟨callN (tblOf l) cn n0 n, cn, n0⟩
    let X := cxOf (L2.CX P w) P w K mg base d.N d.name (defScope d.st) addr cdv A outer s H E
    let W : WX := fun c dd _ H' => E c dd H'
    have tk : L2.Takes X W := L2.takes_of (X := X) rfl rfl rfl rfl
    have po : PassesOwn (model X.prog X.w) X.A X.env X.xe := L2.passes_of (X := X) rfl
    have gx : GX X ⟨d.N, defScope d.st, none, g⟩ C W := {
      hN := rfl
      nd := S.nd
      sc := rfl
      fn := fun _ _ => rfl
      calm := rfl
      tk := tk
      w := hw
      hu := by have := hr.un; show (A.deeper _).units + 65 < cLine; omega
      calls := fun j f ps kw e => by
        rw [show (⟨d.N, defScope d.st, none, g⟩ : MC).g.fns = fnsOf l from hg] at e
        unfold fnsOf at e
        rw [List.getElem?_map] at e
        cases q : l[j]? with
        | none => rw [q] at e; cases e
        | some d2 =>
          rw [q] at e
          cases e
          have dok2 := hok d2 (List.mem_of_getElem? q)
          obtain ⟨ad2, fd2, F2, m2⟩ := hF.fns j d2 q
          refine ⟨⟨n, ad2, fd2, fn_all hT hg hok hF hw n j d2 ad2 fd2 q F2, hr, m2, F2.kp, F2.bindsN dok2.bnd, fun kq hk => ?_⟩, dbg_of dok2.dbg⟩
          obtain ⟨⟨k1, k2, k3⟩, k4⟩ := dok2.kw kq hk
          refine ⟨fun s us ws _ h1 h2 => ?_, k1, k2, k3⟩
          obtain ⟨oc, od, dV, kV, doc, pm, an, cdv, ct, osl, rfl, lk, hcd, hD, hK⟩ := F2.ex
          rcases hD with ⟨_, rfl⟩ | ⟨e, _⟩
          · exact .of_eq (k4 kV doc pm an cdv ct us ws h1 h2)
          · exact absurd rfl e
      xc := fun x hx => by
        obtain ⟨⟨a, B, n1, n2, bm, q1, q2, q3, q4, q5, q6⟩, hd⟩ := hF.xc x hx
        exact ⟨⟨a, B, n1, n2, bm, q1, q2, q3, q4, raises_own q5 q6⟩, dbg_of hd⟩
      cns := hF.cns
      bns := hF.bns }
    refine ⟨tS X W (evB C d.body), sB gx po S.kind d.body _ dok.m, ?_⟩
    have eT : tblOf l i = some d.fd := by unfold tblOf; rw [hi]; rfl
    have ld : ds.length = d.ps.length := by rw [rd.length]; exact hl
    simp only [callN, eT] at h
    rw [if_pos (show ds.length = d.fd.np from ld)] at h
    cases hp : d.fd.pur with
    | false =>
      rw [hp, if_neg Bool.false_ne_true] at h
      exact ⟨b, _, St, ⟨sr, start_env rd ld⟩, endO h⟩
    | true =>
      rw [hp, if_pos rfl] at h
      unfold runP at h
      cases hds : D.pures ds with
      | false => rw [hds, if_neg Bool.false_ne_true] at h; exact h.elim
      | true =>
        rw [hds, if_pos rfl] at h
        refine ⟨⟨[], b.av⟩, _, [], ⟨sr.bare, start_env (rd.bare hds) ld⟩, endO ?_⟩
        show finD0 K mg ⟨[], b.av⟩ H Q E (runB C d.fd ds [])
        have back : ∀ {b' : Bt} {H' : Hp}, Ext ⟨[], b.av⟩ H b' H' → (∀ a ∈ b.av, a ∈ b'.av) ∧ ∀ a ∈ b'.β, a ∉ b.av := fun {b' H'} x => by
          obtain ⟨γ, δ, e1, e2, f1, f2⟩ := x.ex
          refine ⟨fun a ha => by rw [e2]; exact List.mem_append_left _ ha, fun a ha hb => ?_⟩
          rw [e1] at ha
          exact sr.own a hb (f1 a (by simpa using ha))
        cases q : runB C d.fd ds [] with
        | bad =>
          have q' : runB ⟨callN (tblOf l) cn n0 n, cn, n0⟩ d.fd ds [] = .bad := q
          rw [q'] at h; exact h.elim
        | exn x S1 =>
          have q' : runB ⟨callN (tblOf l) cn n0 n, cn, n0⟩ d.fd ds [] = .exn x S1 := q
          rw [q'] at h
          simp only at h
          split at h
          · intro b' H' c dd x1 s1 r1
            obtain ⟨e, s2⟩ := SR.back (S1 := S1) sr x1
            exact h b H' c dd e s2 r1
          · exact h.elim
        | ok y S1 =>
          have q' : runB ⟨callN (tblOf l) cn n0 n, cn, n0⟩ d.fd ds [] = .ok y S1 := q
          rw [q'] at h
          simp only at h
          split at h
          · rename_i y' q2
            intro b' H' v x1 s1 r1
            obtain ⟨e, s2⟩ := SR.back (S1 := S1) sr x1
            obtain ⟨k1, k2⟩ := back x1
            exact h b H' v e s2 (frz_RD k1 k2 s1 60 q2 r1)
          · exact h.elim
end
end DL
/-! DL16: the module's facts by names; the law's def. -/
namespace DL
open PySem PySem.Spec L2
open PyProof.Rows hiding St
def faOf (l : List DT) (bns cls : List Str) (cis : List (Str × Int)) : List He.Fa := l.map (fun d => .glo d.name) ++ (bns.map .free ++ (cls.map .glo ++ (cls.map .exc ++ cis.map fun p => .int p.1 p.2)))
def hdOf (d : DT) : He.DefD := ⟨(d.name, none), d.name, d.name, defArgs d.st, defBody d.st, defScope d.st, [], []⟩
def cnOf (cis : List (Str × Int)) (x : Str) : Option D := (cis.lookup x).map .int
theorem lookup_mem {α : Type} {x : Str} {a : α} : ∀ {l : List (Str × α)}, l.lookup x = some a → (x, a) ∈ l
  | [], h => by cases h
  | (y, c) :: l, h => by
    rw [List.lookup_cons] at h
    split at h
    · rename_i e
      cases h
      rw [eq_of_beq e]
      exact List.mem_cons_self
    · exact List.mem_cons_of_mem _ (lookup_mem h)
theorem fact_of {fa : List He.Fa} {fn : List He.DefD} {K : PySem.W.Frag} (c : He.SaysD fa fn K) {f : He.Fa} (h : f ∈ fa) : f.ok K = true := by
  obtain ⟨i, hi⟩ := List.mem_iff_getElem?.mp h
  exact c.fact i hi
theorem facts_of {P : Program} {w : World} {K : PySem.W.Frag} {h : Heap} {mg : Str → Option Value} {l : List DT} {bns cls : List Str} {cis : List (Str × Int)} (X : K.In h) (G : h.Ns mainGlobals mg) (c : He.SaysD (faOf l bns cls cis) (l.map hdOf) K)
    (hdb : cls.all notDbg = true) (hnd : ∀ p ∈ cis, cis.lookup p.1 = some p.2) : Facts P w K mg ⟨fnsOf l, cls, cis.map (·.1), bns⟩ l (cnOf cis) where
  fns := fun i d hi => by
    obtain ⟨fd, F⟩ := c.def_ i (d := hdOf d) (by rw [List.getElem?_map, hi]; rfl)
    have q := He.glo_ok X G (fact_of c (f := .glo d.name) (List.mem_append_left _ (List.mem_map.mpr ⟨d, List.mem_of_getElem? hi, rfl⟩)))
    exact ⟨_, fd, F, q⟩
  xc := fun x hx => by
    have q := He.glo_ok X G (fact_of c (f := .glo x) (List.mem_append_right _ (List.mem_append_right _ (List.mem_append_left _ (List.mem_map.mpr ⟨x, hx, rfl⟩)))))
    obtain ⟨q1, q2, q3, q4⟩ := He.exc_ok (fact_of c (f := .exc x) (List.mem_append_right _ (List.mem_append_right _ (List.mem_append_right _ (List.mem_append_left _ (List.mem_map.mpr ⟨x, hx, rfl⟩))))))
    exact ⟨⟨_, _, _, _, _, PySem.F.excBase_ValueError, q1, q, q2, q3, q4⟩, List.all_eq_true.mp hdb x hx⟩
  cns := fun x hx => by
    obtain ⟨p, hp, rfl⟩ := List.mem_map.mp hx
    obtain ⟨t, q⟩ := He.int_ok X G (fact_of c (f := .int p.1 p.2) (List.mem_append_right _ (List.mem_append_right _ (List.mem_append_right _ (List.mem_append_right _ (List.mem_map.mpr ⟨p, hp, rfl⟩))))))
    refine ⟨_, .int p.2, q, ⟨t, rfl⟩, fun d hd b H => ?_⟩
    unfold cnOf at hd
    rw [hnd p hp] at hd
    cases hd
    exact .int _
  bns := fun x hx => He.free_ok X G (fact_of c (f := .free x) (List.mem_append_right _ (List.mem_append_left _ (List.mem_map.mpr ⟨x, hx, rfl⟩))))
/-- a def that lets nothing out -/
theorem FnOk.no {P : Program} {w : World} {K : PySem.W.Frag} {mg : Str → Option Value} {base : Heap} {k : Nat} {f : Addr} {fd : FuncData} {ps : List Str} {sp : Sp} (F : FnOk P w K mg base (L2.CX P w) k f fd ps sp) :
    FnOk P w K mg base CX0 k f fd ps (fun vs H Q _ => sp vs H Q fun _ _ _ => False) := by
  refine ⟨fun vs H Q E h => F.len vs H Q _ h, fun A outer s H args us vs Q E hr he hb hv hs => codeAny_mono (F.run A outer s H args us vs Q _ hr he hb hv hs) fun r s' q => ?_⟩
  cases r with
  | ok fl => cases fl <;> exact q
  | error e =>
    obtain ⟨_, _, _, _, _, _, _, _, _, _, _, _, z⟩ := q
    exact z.elim
theorem ints_RDs {K : PySem.W.Frag} {mg : Str → Option Value} {b : Bt} {H : Hp} : ∀ ns : List Int, RDs K mg b H (ns.map D.int) (ns.map V.int)
  | [] => .nil
  | n :: ns => .cons (.int n) (ints_RDs ns)
theorem law_F {P : Program} {w : World} {K : PySem.W.Frag} {h : Heap} {mg : Str → Option Value} {l : List DT} {bns cls : List Str} {cis : List (Str × Int)} {li n n0 : Nat} {d : DT} {fa : Addr} (X : K.In h) (G : h.Ns mainGlobals mg) (c : He.SaysD (faOf l bns cls cis) (l.map hdOf) K)
    (hdb : cls.all notDbg = true) (hnd : ∀ p ∈ cis, cis.lookup p.1 = some p.2) (oks : ∀ d ∈ l, DOk ⟨fnsOf l, cls, cis.map (·.1), bns⟩ d) (hd : l[li]? = some d) (hps : d.ps = [("script" : Str)]) (hmg : mg d.name = some (.ref fa)) (hw : n0 ≤ 16777216)
    (hlaw : ∀ ns : List Int, ns.length ≤ 63 → ∃ S, callN (tblOf l) (cnOf cis) n0 n li [.kl (ns.map D.int)] [] = .ok (.bl true) S) :
    ∃ (fd : FuncData) (sp : Sp), (∀ (s : Shared) (u : Value), BindsTo s fd ⟨[u], []⟩ [(("script" : Str), u)]) ∧ (∀ (H : Hp) (a : Addr) (ns : List Int), ns.length ≤ 63 → SqL K H a (ns.map V.int) → sp [.ref a] H (fun v _ => v = .bl true) fun _ _ _ => False) ∧
      ∀ base : Heap, FnOk P w K mg base CX0 n fa fd [("script" : Str)] sp := by
  have F := facts_of (P := P) (w := w) X G c hdb hnd
  obtain ⟨addr, fd, FD, hm⟩ := F.fns li d hd
  have e : addr = fa := by
    have := hm.symm.trans hmg
    cases this
    rfl
  subst e
  have dok := oks d (List.mem_of_getElem? hd)
  refine ⟨fd, fun vs H Q _ => spG K mg (callN (tblOf l) (cnOf cis) n0 n) li d.ps.length vs H Q fun _ _ _ => False, fun s u => ?_, fun H a ns hl hS => ?_, fun base => ?_⟩
  · have q := FunD.bindsA FD (ps := d.ps) dok.bnd s [u] (by rw [hps]; rfl)
    rw [hps] at q
    exact q
  · obtain ⟨S, e⟩ := hlaw ns hl
    refine ⟨by rw [hps]; rfl, ⟨[], []⟩, [], [.kl (ns.map D.int)], ⟨rfl, List.nodup_nil, fun _ h => (List.not_mem_nil h).elim, fun _ h => (List.not_mem_nil h).elim, fun n o a h => by simp at h⟩, .cons (.kl (vs := ns.map V.int) ?_ (ints_RDs ns)) .nil, ?_⟩
    · rcases hS with h | h
      · exact .inl ⟨h, List.not_mem_nil⟩
      · exact .inr h
    · rw [e]
      intro b' H' v _ _ r
      cases r
      rfl
  · have q := fn_all (P := P) (w := w) (base := base) (n0 := n0) (l := l) rfl rfl oks F hw n li d addr fd hd FD
    rw [hps] at q ⊢
    exact FnOk.no q
end DL
/-! DM1: lemmas to run the evaluator on data that are not known. -/
namespace DL
open PySem
abbrev EC (T : Tbl) (cn : Str → Option D) (w n : Nat) : EvC := ⟨callN T cn w n, cn, w⟩
section
theorem ev_0A (C : EvC) (ρ : Rho) (S : Store) : ev C (.var i) ρ S = (match ρ[i]? with
    | some (some d) => .ok d S
    | _ => .bad) := by simp only [ev] <;> rfl
theorem ev_1A (C : EvC) (z0 : Rho) (S : Store) : ev C (.con c) z0 S = (.ok c.d S) := by simp only [ev] <;> rfl
theorem ev_2A (C : EvC) (z0 : Rho) (S : Store) : ev C (.glob x) z0 S = (optR (C.cn x) S) := by simp only [ev] <;> rfl
theorem ev_3A (C : EvC) (ρ : Rho) (S : Store) : ev C (.tup es) ρ S = ((evs C es ρ S).bind fun ds S1 => .ok (.tup ds) S1) := by simp only [ev] <;> rfl
theorem ev_4A (C : EvC) (ρ : Rho) (S : Store) : ev C (.lst m es) ρ S = ((evs C es ρ S).bind fun ds S1 => newL m ds S1) := by simp only [ev] <;> rfl
theorem ev_5A (C : EvC) (ρ : Rho) (S : Store) : ev C (.bin m op a b) ρ S = ((ev C a ρ S).bind fun x S1 => (ev C b ρ S1).bind fun y S2 => binD m op x y S2) := by simp only [ev] <;> rfl
theorem ev_6A (C : EvC) (ρ : Rho) (S : Store) : ev C (.neg a) ρ S = ((ev C a ρ S).bind fun x S1 => match x with
    | .int i => .ok (.int (-i)) S1
    | _ => .bad) := by simp only [ev] <;> rfl
theorem ev_7A (C : EvC) (ρ : Rho) (S : Store) : ev C (.not a) ρ S = ((ev C a ρ S).bind fun x S1 => optR ((truth S1 x).map fun k => .bl (!k)) S1) := by simp only [ev] <;> rfl
theorem ev_8A (C : EvC) (ρ : Rho) (S : Store) : ev C (.cmp op a b) ρ S = ((ev C a ρ S).bind fun x S1 => (ev C b ρ S1).bind fun y S2 => optR ((cmpD op x y S2).map .bl) S2) := by simp only [ev] <;> rfl
theorem ev_9A (C : EvC) (ρ : Rho) (S : Store) : ev C (.chain op op' a b c) ρ S = ((ev C a ρ S).bind fun x S1 => (ev C b ρ S1).bind fun y S2 => (optR (cmpD op x y S2) S2).bind fun k S3 =>
      if k then (ev C c ρ S3).bind fun z S4 => optR ((cmpD op' y z S4).map .bl) S4 else .ok (.bl false) S3) := by simp only [ev] <;> rfl
theorem ev_10A (C : EvC) (ρ : Rho) (S : Store) : ev C (.and a b) ρ S = ((ev C a ρ S).bind fun x S1 => (optR (truth S1 x) S1).bind fun k S2 => if k then ev C b ρ S2 else .ok x S2) := by simp only [ev] <;> rfl
theorem ev_11A (C : EvC) (ρ : Rho) (S : Store) : ev C (.or a b) ρ S = ((ev C a ρ S).bind fun x S1 => (optR (truth S1 x) S1).bind fun k S2 => if k then .ok x S2 else ev C b ρ S2) := by simp only [ev] <;> rfl
theorem ev_12A (C : EvC) (ρ : Rho) (S : Store) : ev C (.ite c a b) ρ S = ((evT C c ρ S).bind fun k S1 => if k then ev C a ρ S1 else ev C b ρ S1) := by simp only [ev] <;> rfl
theorem ev_13A (C : EvC) (ρ : Rho) (S : Store) : ev C (.ix a b) ρ S = ((ev C a ρ S).bind fun x S1 => (ev C b ρ S1).bind fun y S2 => optR (ixD x y S2) S2) := by simp only [ev] <;> rfl
theorem ev_14A (C : EvC) (ρ : Rho) (S : Store) : ev C (.slice m a lo hi) ρ S = ((ev C a ρ S).bind fun x S1 => (evO C lo ρ S1).bind fun l S2 => (evO C hi ρ S2).bind fun h S3 => sliceD m x l h S3) := by simp only [ev] <;> rfl
theorem ev_15A (C : EvC) (ρ : Rho) (S : Store) : ev C (.lc m elt tg it ifs own) ρ S = ((evI C it ρ S).bind fun src S1 =>
      (lcGo src (evG C tg) (evTs C ifs) (ev C elt) (wipeR ρ own) C.w 0 [] S1).bind fun ds S2 => newL m ds S2) := by simp only [ev] <;> rfl
theorem ev_16A (C : EvC) (ρ : Rho) (S : Store) : ev C (.call f es) ρ S = ((evs C es ρ S).bind fun ds S1 => C.call f ds S1) := by simp only [ev] <;> rfl
theorem ev_17A (C : EvC) (ρ : Rho) (S : Store) : ev C (.callk f es u1 perm) ρ S = ((evs C es ρ S).bind fun ds S1 => C.call f (perm.filterMap fun j => ds[j]?) S1) := by simp only [ev] <;> rfl
theorem ev_18A (C : EvC) (ρ : Rho) (S : Store) : ev C (.bcall m b e) ρ S = ((ev C e ρ S).bind fun x S1 => biD m b x S1) := by simp only [ev] <;> rfl
theorem ev_19A (C : EvC) (ρ : Rho) (S : Store) : ev C (.isi a ts) ρ S = ((ev C a ρ S).bind fun x S1 => optR ((isiD S1 x ts).map .bl) S1) := by simp only [ev] <;> rfl
theorem ev_20A (C : EvC) (ρ : Rho) (S : Store) : ev C (.meth o name es) ρ S = ((ev C o ρ S).bind fun x S1 => if (ownOf S1 x).isSome then (evs C es ρ S1).bind fun ds S2 => methD true x name ds S2 else .bad) := by simp only [ev] <;> rfl
theorem ev_21A (C : EvC) (ρ : Rho) (S : Store) : ev C (.mm mx a b) ρ S = ((ev C a ρ S).bind fun x S1 => (ev C b ρ S1).bind fun y S2 => optR (mm2 mx x y) S2) := by simp only [ev] <;> rfl
theorem evs_0A (C : EvC) (z0 : Rho) (S : Store) : evs C (.nil) z0 S = (.ok [] S) := by simp only [evs] <;> rfl
theorem evs_1A (C : EvC) (ρ : Rho) (S : Store) : evs C (.cons e r) ρ S = ((ev C e ρ S).bind fun x S1 => (evs C r ρ S1).bind fun xs S2 => .ok (x :: xs) S2) := by simp only [evs] <;> rfl
theorem evO_0A (C : EvC) (z0 : Rho) (S : Store) : evO C (none) z0 S = (.ok none S) := by simp only [evO] <;> rfl
theorem evO_1A (C : EvC) (ρ : Rho) (S : Store) : evO C (some e) ρ S = ((ev C e ρ S).bind fun x S1 => match x with
    | .int i => .ok (some i) S1
    | _ => .bad) := by simp only [evO] <;> rfl
theorem evT_0A (C : EvC) (ρ : Rho) (S : Store) : evT C (.not a) ρ S = ((evT C a ρ S).bind fun k S1 => .ok (!k) S1) := by simp only [evT] <;> rfl
theorem evT_1A (C : EvC) (ρ : Rho) (S : Store) : evT C (.and a b) ρ S = ((evT C a ρ S).bind fun k S1 => if k then evT C b ρ S1 else .ok false S1) := by simp only [evT] <;> rfl
theorem evT_2A (C : EvC) (ρ : Rho) (S : Store) : evT C (.or a b) ρ S = ((evT C a ρ S).bind fun k S1 => if k then .ok true S1 else evT C b ρ S1) := by simp only [evT] <;> rfl
theorem evT_3A (C : EvC) (ρ : Rho) (S : Store) : evT C (.ite c a b) ρ S = ((evT C c ρ S).bind fun k S1 => if k then evT C a ρ S1 else evT C b ρ S1) := by simp only [evT] <;> rfl
theorem evT_4A (C : EvC) (ρ : Rho) (S : Store) : evT C (.cmp op a b) ρ S = ((ev C a ρ S).bind fun x S1 => (ev C b ρ S1).bind fun y S2 => optR (cmpD op x y S2) S2) := by simp only [evT] <;> rfl
theorem evT_5A (C : EvC) (ρ : Rho) (S : Store) : evT C (.chain op op' a b c) ρ S = ((ev C a ρ S).bind fun x S1 => (ev C b ρ S1).bind fun y S2 => (optR (cmpD op x y S2) S2).bind fun k S3 =>
      if k then (ev C c ρ S3).bind fun z S4 => optR (cmpD op' y z S4) S4 else .ok false S3) := by simp only [evT] <;> rfl
theorem evT_6A (C : EvC) (ρ : Rho) (S : Store) : evT C (.call f es) ρ S = ((evs C es ρ S).bind fun ds S1 => (C.call f ds S1).bind fun x S2 => optR (truth S2 x) S2) := by simp only [evT] <;> rfl
theorem evT_7A (C : EvC) (ρ : Rho) (S : Store) : evT C (.callk f es u1 perm) ρ S = ((evs C es ρ S).bind fun ds S1 => (C.call f (perm.filterMap fun j => ds[j]?) S1).bind fun x S2 => optR (truth S2 x) S2) := by simp only [evT] <;> rfl
theorem evT_8A (C : EvC) (ρ : Rho) (S : Store) : evT C (.bcall m b e) ρ S = ((ev C e ρ S).bind fun x S1 => (biD m b x S1).bind fun x S2 => optR (truth S2 x) S2) := by simp only [evT] <;> rfl
theorem evT_9A (C : EvC) (ρ : Rho) (S : Store) : evT C (.isi a ts) ρ S = ((ev C a ρ S).bind fun x S1 => optR (isiD S1 x ts) S1) := by simp only [evT] <;> rfl
theorem evT_10A (C : EvC) (ρ : Rho) (S : Store) : evT C (.var i) ρ S = (match ρ[i]? with
    | some (some d) => optR (truth S d) S
    | _ => .bad) := by simp only [evT] <;> rfl
theorem evT_11A (C : EvC) (z0 : Rho) (S : Store) : evT C (.con c) z0 S = (optR (truth S c.d) S) := by simp only [evT] <;> rfl
theorem evT_12A (C : EvC) (ρ : Rho) (S : Store) : evT C (.ix a b) ρ S = ((ev C a ρ S).bind fun x S1 => (ev C b ρ S1).bind fun y S2 => (optR (ixD x y S2) S2).bind fun x S3 => optR (truth S3 x) S3) := by simp only [evT] <;> rfl
theorem evTs_0A (C : EvC) (z0 : Rho) (S : Store) : evTs C (.nil) z0 S = (.ok true S) := by simp only [evTs] <;> rfl
theorem evTs_1A (C : EvC) (ρ : Rho) (S : Store) : evTs C (.cons e r) ρ S = ((evT C e ρ S).bind fun k S1 => if k then evTs C r ρ S1 else .ok false S1) := by simp only [evTs] <;> rfl
theorem evI_0A (C : EvC) (ρ : Rho) (S : Store) : evI C (.val e) ρ S = ((ev C e ρ S).bind fun x S1 => match x with
    | .str _ => .bad
    | x => optR (srcVal S1 x) S1) := by simp only [evI] <;> rfl
theorem evI_1A (C : EvC) (ρ : Rho) (S : Store) : evI C (.str e) ρ S = ((ev C e ρ S).bind fun x S1 => match x with
    | .str z => .ok (.str z) S1
    | _ => .bad) := by simp only [evI] <;> rfl
theorem evI_2A (C : EvC) (ρ : Rho) (S : Store) : evI C (.range es) ρ S = ((evs C es ρ S).bind fun ds S1 => optR (srcRange ds) S1) := by simp only [evI] <;> rfl
theorem evI_3A (C : EvC) (ρ : Rho) (S : Store) : evI C (.enum e) ρ S = ((ev C e ρ S).bind fun x S1 => optR (srcEnum S1 x) S1) := by simp only [evI] <;> rfl
theorem evI_4A (C : EvC) (ρ : Rho) (S : Store) : evI C (.zip a b) ρ S = ((ev C a ρ S).bind fun x S1 => (ev C b ρ S1).bind fun y S2 => optR (srcZip x y) S2) := by simp only [evI] <;> rfl
theorem evG_0A (C : EvC) (x : D) (ρ : Rho) (S : Store) : evG C (.name i) x ρ S = (.ok (setN ρ i x) S) := by simp only [evG] <;> rfl
theorem evG_1A (C : EvC) (x : D) (ρ : Rho) (S : Store) : evG C (.tup is) x ρ S = (match seqOf S x with
    | some xs => optR (setNs ρ is xs) S
    | none => .bad) := by simp only [evG] <;> rfl
theorem evG_2A (C : EvC) (v : D) (ρ : Rho) (S : Store) : evG C (.ix o i) v ρ S = ((ev C o ρ S).bind fun x S1 => (ev C i ρ S1).bind fun y S2 => match setIx x y v S2 with
    | some S3 => .ok ρ S3
    | none => .bad) := by simp only [evG] <;> rfl
theorem evS_0A (C : EvC) (ρ : Rho) (S : Store) : evS C (.asg t e) ρ S = (bindO ρ (ev C e ρ S) fun x S1 => bindO ρ (evG C t x ρ S1) fun ρ1 S2 => .nx ρ1 S2) := by simp only [evS] <;> rfl
theorem evS_1A (C : EvC) (ρ : Rho) (S : Store) : evS C (.expr e) ρ S = (bindO ρ (ev C e ρ S) fun _ S1 => .nx ρ S1) := by simp only [evS] <;> rfl
theorem evS_2A (C : EvC) (ρ : Rho) (S : Store) : evS C (.ret e) ρ S = (bindO ρ (ev C e ρ S) fun x S1 => .rt x S1) := by simp only [evS] <;> rfl
theorem evS_3A (C : EvC) (ρ : Rho) (S : Store) : evS C (.ite c a b) ρ S = (bindO ρ (evT C c ρ S) fun k S1 => if k then evB C a ρ S1 else evB C b ρ S1) := by simp only [evS] <;> rfl
theorem evS_4A (C : EvC) (ρ : Rho) (S : Store) : evS C (.for_ t it b) ρ S = (bindO ρ (evI C it ρ S) fun src S1 => forGo src (evG C t) (evB C b) C.w 0 ρ S1) := by simp only [evS] <;> rfl
theorem evS_5A (C : EvC) (ρ : Rho) (S : Store) : evS C (.while_ c b) ρ S = (whileGo (evT C c) (evB C b) C.w ρ S) := by simp only [evS] <;> rfl
theorem evS_6A (C : EvC) (ρ : Rho) (S : Store) : evS C (.brk) ρ S = (.bk ρ S) := by simp only [evS] <;> rfl
theorem evS_7A (C : EvC) (ρ : Rho) (S : Store) : evS C (.cont) ρ S = (.ct ρ S) := by simp only [evS] <;> rfl
theorem evS_8A (C : EvC) (ρ : Rho) (S : Store) : evS C (.pass) ρ S = (.nx ρ S) := by simp only [evS] <;> rfl
theorem evS_9A (C : EvC) (ρ : Rho) (S : Store) : evS C (.par i j a b) ρ S = (bindO ρ (ev C a ρ S) fun x S1 => bindO ρ (ev C b ρ S1) fun y S2 => .nx (setN (setN ρ i x) j y) S2) := by simp only [evS] <;> rfl
theorem evS_10A (C : EvC) (ρ : Rho) (S : Store) : evS C (.raise c es) ρ S = (bindO ρ (evs C es ρ S) fun ds S1 => .exn ⟨c, ds⟩ ρ S1) := by simp only [evS] <;> rfl
end
mutual
theorem frzR_pure {f : Nat → Option D} : ∀ x : D, x.pure = true → frzR f x = some x
  | .non, _ => rfl
  | .bl _, _ => rfl
  | .int _, _ => rfl
  | .str _, _ => rfl
  | .tup xs, h => by unfold frzR; rw [frzRs_pure xs h]; rfl
  | .lst xs, h => by unfold frzR; rw [frzRs_pure xs h]; rfl
  | .kl xs, h => by unfold frzR; rw [frzRs_pure xs h]; rfl
  | .ref _, h => by cases h
  | .fn _, _ => rfl
theorem frzRs_pure {f : Nat → Option D} : ∀ xs : List D, D.pures xs = true → frzRs f xs = some xs
  | [], _ => rfl
  | x :: xs, h => by
    unfold D.pures at h
    obtain ⟨h1, h2⟩ := ande h
    unfold frzRs
    rw [frzR_pure x h1, frzRs_pure xs h2]
end
theorem frz_pure {k : Nat} {S : Store} {x : D} (h : x.pure = true) : frz k S x = some x := by
  cases k <;> exact frzR_pure x h
theorem pures_append : ∀ {xs ys : List D}, D.pures xs = true → D.pures ys = true → D.pures (xs ++ ys) = true
  | [], _, _, h => h
  | x :: xs, ys, h, k => by
    unfold D.pures at h
    obtain ⟨h1, h2⟩ := ande h
    show (x.pure && D.pures (xs ++ ys)) = true
    rw [h1, pures_append h2 k]
    rfl
theorem pures_iff : ∀ {xs : List D}, D.pures xs = true ↔ ∀ x ∈ xs, x.pure = true
  | [] => by simp [D.pures]
  | x :: xs => by
    unfold D.pures
    rw [Bool.and_eq_true, pures_iff]
    simp
section
variable {T : Tbl} {cn : Str → Option D} {w n i : Nat} {fd : FD} {ds : List D} {r : D} {S S1 : Store}
theorem callP (hT : T i = some fd) (hp : fd.pur = true) (hl : ds.length = fd.np) (hd : D.pures ds = true) (h : runB (EC T cn w n) fd ds [] = .ok r S1) (hr : r.pure = true) : callN T cn w (n + 1) i ds S = .ok r S := by
  unfold callN
  rw [hT]
  simp only
  rw [if_pos hl, hp, if_pos rfl]
  unfold runP
  rw [hd, if_pos rfl]
  have h' : runB ⟨callN T cn w n, cn, w⟩ fd ds [] = .ok r S1 := h
  rw [h']
  simp only
  rw [frz_pure hr]
theorem callPf {r' : D} (hT : T i = some fd) (hp : fd.pur = true) (hl : ds.length = fd.np) (hd : D.pures ds = true) (h : runB (EC T cn w n) fd ds [] = .ok r S1) (hr : frz 60 S1 r = some r') : callN T cn w (n + 1) i ds S = .ok r' S := by
  unfold callN
  rw [hT]
  simp only
  rw [if_pos hl, hp, if_pos rfl]
  unfold runP
  rw [hd, if_pos rfl]
  have h' : runB ⟨callN T cn w n, cn, w⟩ fd ds [] = .ok r S1 := h
  rw [h']
  simp only
  rw [hr]
theorem callI (hT : T i = some fd) (hp : fd.pur = false) (hl : ds.length = fd.np) : callN T cn w (n + 1) i ds S = runB (EC T cn w n) fd ds S := by
  conv => lhs; unfold callN
  rw [hT]
  simp only
  rw [if_pos hl, hp, if_neg Bool.false_ne_true]
end
/-! ### comprehensions -/
theorem lc_go {src : Src} {tg : D → Rho → Store → Res Rho} {tt : M Bool} {te : M D} {ρ : Rho} {S : Store} {xs : List D} {p : D → Bool} {f : D → D} {ρ' : D → Rho} (hs : ∀ i, src.at i S = some xs[i]?)
    (h : ∀ x ∈ xs, tg x ρ S = .ok (ρ' x) S ∧ tt (ρ' x) S = .ok (p x) S ∧ (p x = true → te (ρ' x) S = .ok (f x) S)) :
    ∀ (k i : Nat) (acc : List D), xs.length < k + i → i ≤ xs.length → lcGo src tg tt te ρ k i acc S = .ok (acc ++ ((xs.drop i).filter p).map f) S
  | 0, i, acc, hk, hi => absurd hk (by omega)
  | k + 1, i, acc, hk, hi => by
    unfold lcGo
    rw [hs i]
    cases e : xs[i]? with
    | none =>
      have : xs.drop i = [] := List.drop_eq_nil_of_le (List.getElem?_eq_none_iff.mp e)
      simp [this]
    | some x =>
      obtain ⟨h1, h2, h3⟩ := h x (List.mem_of_getElem? e)
      obtain ⟨hi2, hx⟩ := List.getElem?_eq_some_iff.mp e
      have ed : xs.drop i = x :: xs.drop (i + 1) := by rw [List.drop_eq_getElem_cons hi2, hx]
      simp only [h1, Res.bindN_ok, h2]
      cases q : p x with
      | true =>
        rw [if_pos rfl, h3 q]
        simp only [Res.bindN_ok]
        rw [lc_go hs h k (i + 1) _ (by omega) (by omega), ed, List.filter_cons, q, if_pos rfl]
        simp
      | false =>
        rw [if_neg Bool.false_ne_true, lc_go hs h k (i + 1) _ (by omega) (by omega), ed, List.filter_cons, q]
        rfl
theorem lc_pure {src : Src} {tg : D → Rho → Store → Res Rho} {tt : M Bool} {te : M D} {ρ : Rho} {S : Store} {w : Nat} (xs : List D) (p : D → Bool) (f : D → D) (ρ' : D → Rho) (hs : ∀ i, src.at i S = some xs[i]?)
    (h : ∀ x ∈ xs, tg x ρ S = .ok (ρ' x) S ∧ tt (ρ' x) S = .ok (p x) S ∧ (p x = true → te (ρ' x) S = .ok (f x) S)) (hw : xs.length < w) : lcGo src tg tt te ρ w 0 [] S = .ok ((xs.filter p).map f) S := by
  rw [lc_go hs h w 0 [] (by omega) (by omega)]
  simp
/-- .. while the store changes -/
theorem lc_inv {src : Src} {tg : D → Rho → Store → Res Rho} {tt : M Bool} {te : M D} {ρ : Rho} {N : Nat} (I : Nat → List D → Store → Prop)
    (step : ∀ i acc S, i < N → I i acc S → ∃ x ρ' S1 b S2, src.at i S = some (some x) ∧ tg x ρ S = .ok ρ' S1 ∧ tt ρ' S1 = .ok b S2 ∧ (if b = true then ∃ y S3, te ρ' S2 = .ok y S3 ∧ I (i + 1) (acc ++ [y]) S3 else I (i + 1) acc S2))
    (stop : ∀ acc S, I N acc S → src.at N S = some none) : ∀ (k i : Nat) (acc : List D) (S : Store), N < k + i → i ≤ N → I i acc S → ∃ ys S', lcGo src tg tt te ρ k i acc S = .ok ys S' ∧ I N ys S'
  | 0, i, acc, S, hk, hi, _ => absurd hk (by omega)
  | k + 1, i, acc, S, hk, hi, h => by
    unfold lcGo
    by_cases e : i = N
    · subst e
      rw [stop acc S h]
      exact ⟨acc, S, rfl, h⟩
    · obtain ⟨x, ρ', S1, b, S2, e1, e2, e3, e4⟩ := step i acc S (by omega) h
      simp only [e1, e2, Res.bindN_ok, e3]
      cases b with
      | true =>
        rw [if_pos rfl] at e4 ⊢
        obtain ⟨y, S3, e5, h5⟩ := e4
        rw [e5]
        exact lc_inv I step stop k (i + 1) _ _ (by omega) (by omega) h5
      | false =>
        rw [if_neg Bool.false_ne_true] at e4 ⊢
        exact lc_inv I step stop k (i + 1) _ _ (by omega) (by omega) e4
/-! ### loops -/
/-- a for loop that runs to its end, or leaves by a value -/
theorem for_inv {src : Src} {tg : D → Rho → Store → Res Rho} {tb : Rho → Store → Out} {N : Nat} (I : Nat → Rho → Store → Prop) (B : Out → Prop)
    (step : ∀ i ρ S, i < N → I i ρ S → ∃ x ρ1 S1, src.at i S = some (some x) ∧ tg x ρ S = .ok ρ1 S1 ∧ match tb ρ1 S1 with
      | .nx ρ2 S2 => I (i + 1) ρ2 S2
      | .ct ρ2 S2 => I (i + 1) ρ2 S2
      | .bk ρ2 S2 => B (.nx ρ2 S2)
      | o => B o)
    (stop : ∀ ρ S, I N ρ S → src.at N S = some none ∧ B (.nx ρ S)) : ∀ (k i : Nat) (ρ : Rho) (S : Store), N < k + i → i ≤ N → I i ρ S → B (forGo src tg tb k i ρ S)
  | 0, i, ρ, S, hk, hi, _ => absurd hk (by omega)
  | k + 1, i, ρ, S, hk, hi, h => by
    unfold forGo
    by_cases e : i = N
    · subst e
      obtain ⟨e1, e2⟩ := stop ρ S h
      rw [e1]
      exact e2
    · obtain ⟨x, ρ1, S1, e1, e2, e3⟩ := step i ρ S (by omega) h
      simp only [e1, e2]
      cases q : tb ρ1 S1 with
      | nx ρ2 S2 => rw [q] at e3; exact for_inv I B step stop k (i + 1) _ _ (by omega) (by omega) e3
      | ct ρ2 S2 => rw [q] at e3; exact for_inv I B step stop k (i + 1) _ _ (by omega) (by omega) e3
      | bk ρ2 S2 => rw [q] at e3; exact e3
      | rt d S2 => rw [q] at e3; exact e3
      | exn x ρ2 S2 => rw [q] at e3; exact e3
      | bad => rw [q] at e3; exact e3
/-! ### data -/
/-- one statement, then the rest -/
def seqO (o : Out) (f : Rho → Store → Out) : Out := match o with
  | .nx ρ S => f ρ S
  | o => o
section
variable {S : Store} {i j : Int} {a b : Bool} {x y : Str} {xs ys : List D} {n : Nat} {d : D} {ρ : Rho} {lo hi : Option Int}
theorem truth_bl : truth S (.bl a) = some a := rfl
theorem truth_int : truth S (.int i) = some (i != 0) := rfl
theorem truth_non : truth S .non = some false := rfl
theorem truth_tup : truth S (.tup xs) = some (!xs.isEmpty) := rfl
theorem truth_lst : truth S (.lst xs) = some (!xs.isEmpty) := rfl
theorem cmp_lt : cmpD .lt (.int i) (.int j) S = some (decide (i < j)) := rfl
theorem cmp_le : cmpD .le (.int i) (.int j) S = some (decide (i ≤ j)) := rfl
theorem cmp_gt : cmpD .gt (.int i) (.int j) S = some (decide (j < i)) := rfl
theorem cmp_ge : cmpD .ge (.int i) (.int j) S = some (decide (j ≤ i)) := rfl
theorem cmp_in : cmpD .in_ d (.tup xs) S = inD S d (.tup xs) := rfl
theorem cmp_inL : cmpD .in_ d (.lst xs) S = inD S d (.lst xs) := rfl
theorem cmp_notin : cmpD .notin d (.tup xs) S = (inD S d (.tup xs)).map (!·) := rfl
theorem ix_tup : ixD (.tup xs) (.int i) S = L2.atI xs i := rfl
theorem ix_lst : ixD (.lst xs) (.int i) S = L2.atI xs i := rfl
theorem ix_kl : ixD (.kl xs) (.int i) S = L2.atI xs i := rfl
theorem add_int_true : binD true .add (.int i) (.int j) S = .ok (.int (i + j)) S := rfl
theorem sub_int_true : binD true .sub (.int i) (.int j) S = .ok (.int (i - j)) S := rfl
theorem add_tup_true : binD true .add (.tup xs) (.tup ys) S = if xs.length + ys.length ≤ 16777216 then .ok (.tup (xs ++ ys)) S else .bad := rfl
theorem mod_int_true : binD true .mod (.int i) (.int j) S = if 0 < j then .ok (.int (i % j)) S else .bad := rfl
theorem fdiv_int_true : binD true .fdiv (.int i) (.int j) S = if 0 < j ∧ j.natAbs < 1073741824 then .ok (.int (i / j)) S else .bad := rfl
theorem mul_int_true : binD true .mul (.int i) (.int j) S = if i.natAbs ≤ 18446744073709551615 ∨ j.natAbs ≤ 18446744073709551615 then .ok (.int (i * j)) S else .bad := rfl
theorem pow_int_true : binD true .pow (.int i) (.int j) S = if 0 ≤ j ∧ j.natAbs ≤ 1000000 ∧ i.natAbs ≤ 18446744073709551615 then .ok (.int (i ^ j.toNat)) S else .bad := rfl
theorem mul_tup_true : binD true .mul (.tup xs) (.int i) S = if xs.isEmpty = false ∧ 2 ≤ i ∧ i.natAbs ≤ 1000 ∧ xs.length ≤ 1000 then .ok (.tup (List.replicate i.toNat xs).flatten) S else .bad := rfl
theorem add_lst_true : binD true .add (.lst xs) (.lst ys) S = if xs.length + ys.length ≤ 16777216 then newL true (xs ++ ys) S else .bad := rfl
theorem sl_tup_true : sliceD true (.tup xs) lo hi S = .ok (.tup (cutD xs lo hi)) S := rfl
theorem sl_lst_true : sliceD true (.lst xs) lo hi S = newL true (cutD xs lo hi) S := rfl
theorem sl_kl_true : sliceD true (.kl xs) lo hi S = newL true (cutD xs lo hi) S := rfl
theorem len_tup_true : biD true .len (.tup xs) S = .ok (.int xs.length) S := rfl
theorem tuple_tup_true : biD true .tuple (.tup xs) S = .ok (.tup xs) S := rfl
theorem list_tup_true : biD true .list (.tup xs) S = newL true xs S := rfl
theorem len_lst_true : biD true .len (.lst xs) S = .ok (.int xs.length) S := rfl
theorem tuple_lst_true : biD true .tuple (.lst xs) S = .ok (.tup xs) S := rfl
theorem list_lst_true : biD true .list (.lst xs) S = newL true xs S := rfl
theorem len_kl_true : biD true .len (.kl xs) S = .ok (.int xs.length) S := rfl
theorem tuple_kl_true : biD true .tuple (.kl xs) S = .ok (.tup xs) S := rfl
theorem list_kl_true : biD true .list (.kl xs) S = newL true xs S := rfl
theorem tuple_ref_true : biD true .tuple (.ref n) S = match seqOf S (.ref n) with | some xs => .ok (.tup xs) S | none => .bad := rfl
theorem int_int_true : biD true .int (.int i) S = .ok (.int i) S := rfl
theorem int_bl_true : biD true .int (.bl a) S = .ok (.int (if a then 1 else 0)) S := rfl
theorem abs_int_true : biD true .abs (.int i) S = .ok (.int (if i < 0 then -i else i)) S := rfl
theorem all_lst_true : biD true .all (.lst xs) S = match blsOf xs with | some bs => .ok (.bl (bs.all id)) S | none => .bad := rfl
theorem any_lst_true : biD true .any (.lst xs) S = match blsOf xs with | some bs => .ok (.bl (bs.any id)) S | none => .bad := rfl
theorem sum_lst_true : biD true .sum (.lst xs) S = match intsOf xs with | some ns => .ok (.int ns.sum) S | none => .bad := rfl
theorem max_lst_true : biD true .max (.lst xs) S = match intsOf xs with | some (n :: ns) => .ok (.int (maxI (n :: ns))) S | _ => .bad := rfl
theorem add_int_false : binD false .add (.int i) (.int j) S = .ok (.int (i + j)) S := rfl
theorem sub_int_false : binD false .sub (.int i) (.int j) S = .ok (.int (i - j)) S := rfl
theorem add_tup_false : binD false .add (.tup xs) (.tup ys) S = if xs.length + ys.length ≤ 16777216 then .ok (.tup (xs ++ ys)) S else .bad := rfl
theorem mod_int_false : binD false .mod (.int i) (.int j) S = if 0 < j then .ok (.int (i % j)) S else .bad := rfl
theorem fdiv_int_false : binD false .fdiv (.int i) (.int j) S = if 0 < j ∧ j.natAbs < 1073741824 then .ok (.int (i / j)) S else .bad := rfl
theorem mul_int_false : binD false .mul (.int i) (.int j) S = if i.natAbs ≤ 18446744073709551615 ∨ j.natAbs ≤ 18446744073709551615 then .ok (.int (i * j)) S else .bad := rfl
theorem pow_int_false : binD false .pow (.int i) (.int j) S = if 0 ≤ j ∧ j.natAbs ≤ 1000000 ∧ i.natAbs ≤ 18446744073709551615 then .ok (.int (i ^ j.toNat)) S else .bad := rfl
theorem mul_tup_false : binD false .mul (.tup xs) (.int i) S = if xs.isEmpty = false ∧ 2 ≤ i ∧ i.natAbs ≤ 1000 ∧ xs.length ≤ 1000 then .ok (.tup (List.replicate i.toNat xs).flatten) S else .bad := rfl
theorem add_lst_false : binD false .add (.lst xs) (.lst ys) S = if xs.length + ys.length ≤ 16777216 then newL false (xs ++ ys) S else .bad := rfl
theorem sl_tup_false : sliceD false (.tup xs) lo hi S = .ok (.tup (cutD xs lo hi)) S := rfl
theorem sl_lst_false : sliceD false (.lst xs) lo hi S = newL false (cutD xs lo hi) S := rfl
theorem sl_kl_false : sliceD false (.kl xs) lo hi S = newL false (cutD xs lo hi) S := rfl
theorem len_tup_false : biD false .len (.tup xs) S = .ok (.int xs.length) S := rfl
theorem tuple_tup_false : biD false .tuple (.tup xs) S = .ok (.tup xs) S := rfl
theorem list_tup_false : biD false .list (.tup xs) S = newL false xs S := rfl
theorem len_lst_false : biD false .len (.lst xs) S = .ok (.int xs.length) S := rfl
theorem tuple_lst_false : biD false .tuple (.lst xs) S = .ok (.tup xs) S := rfl
theorem list_lst_false : biD false .list (.lst xs) S = newL false xs S := rfl
theorem len_kl_false : biD false .len (.kl xs) S = .ok (.int xs.length) S := rfl
theorem tuple_kl_false : biD false .tuple (.kl xs) S = .ok (.tup xs) S := rfl
theorem list_kl_false : biD false .list (.kl xs) S = newL false xs S := rfl
theorem tuple_ref_false : biD false .tuple (.ref n) S = match seqOf S (.ref n) with | some xs => .ok (.tup xs) S | none => .bad := rfl
theorem int_int_false : biD false .int (.int i) S = .ok (.int i) S := rfl
theorem int_bl_false : biD false .int (.bl a) S = .ok (.int (if a then 1 else 0)) S := rfl
theorem abs_int_false : biD false .abs (.int i) S = .ok (.int (if i < 0 then -i else i)) S := rfl
theorem all_lst_false : biD false .all (.lst xs) S = match blsOf xs with | some bs => .ok (.bl (bs.all id)) S | none => .bad := rfl
theorem any_lst_false : biD false .any (.lst xs) S = match blsOf xs with | some bs => .ok (.bl (bs.any id)) S | none => .bad := rfl
theorem sum_lst_false : biD false .sum (.lst xs) S = match intsOf xs with | some ns => .ok (.int ns.sum) S | none => .bad := rfl
theorem max_lst_false : biD false .max (.lst xs) S = match intsOf xs with | some (n :: ns) => .ok (.int (maxI (n :: ns))) S | _ => .bad := rfl
theorem newL_f : newL false xs S = .ok (.lst xs) S := rfl
theorem newL_t : newL true xs S = .ok (.ref S.length) (S ++ [.lst xs]) := rfl
theorem sv_tup : srcVal S (.tup xs) = some (.seq xs) := rfl
theorem sv_lst : srcVal S (.lst xs) = some (.seq xs) := rfl
theorem sv_kl : srcVal S (.kl xs) = some (.seq xs) := rfl
theorem se_tup : srcEnum S (.tup xs) = some (.enum xs) := rfl
theorem se_lst : srcEnum S (.lst xs) = some (.enum xs) := rfl
theorem se_kl : srcEnum S (.kl xs) = some (.enum xs) := rfl
theorem sz_tup : srcZip (.tup xs) (.tup ys) = some (.zip xs ys) := rfl
theorem sz_lst : srcZip (.lst xs) (.lst ys) = some (.zip xs ys) := rfl
theorem sr_1 : srcRange [.int j] = if j.natAbs ≤ 1000000000 then some (.rng 0 j.toNat) else none := rfl
theorem sr_2 : srcRange [.int i, .int j] = if i.natAbs ≤ 1000000000 ∧ j.natAbs ≤ 1000000000 then some (.rng i (j - i).toNat) else none := rfl
theorem isi_non_int : isiD S .non [.int] = some false := rfl
theorem isi_non_bl : isiD S .non [.bl] = some false := rfl
theorem isi_non_str : isiD S .non [.str] = some false := rfl
theorem isi_non_tup : isiD S .non [.tup] = some false := rfl
theorem isi_non_lst : isiD S .non [.lst] = some false := rfl
theorem isi_non_lst_tup : isiD S .non [.lst, .tup] = some false := rfl
theorem isi_non_bl_str : isiD S .non [.bl, .str] = some false := rfl
theorem isi_bl_int : isiD S (.bl a) [.int] = some true := rfl
theorem isi_bl_bl : isiD S (.bl a) [.bl] = some true := rfl
theorem isi_bl_str : isiD S (.bl a) [.str] = some false := rfl
theorem isi_bl_tup : isiD S (.bl a) [.tup] = some false := rfl
theorem isi_bl_lst : isiD S (.bl a) [.lst] = some false := rfl
theorem isi_bl_lst_tup : isiD S (.bl a) [.lst, .tup] = some false := rfl
theorem isi_bl_bl_str : isiD S (.bl a) [.bl, .str] = some true := rfl
theorem isi_int_int : isiD S (.int i) [.int] = some true := rfl
theorem isi_int_bl : isiD S (.int i) [.bl] = some false := rfl
theorem isi_int_str : isiD S (.int i) [.str] = some false := rfl
theorem isi_int_tup : isiD S (.int i) [.tup] = some false := rfl
theorem isi_int_lst : isiD S (.int i) [.lst] = some false := rfl
theorem isi_int_lst_tup : isiD S (.int i) [.lst, .tup] = some false := rfl
theorem isi_int_bl_str : isiD S (.int i) [.bl, .str] = some false := rfl
theorem isi_str_int : isiD S (.str x) [.int] = some false := rfl
theorem isi_str_bl : isiD S (.str x) [.bl] = some false := rfl
theorem isi_str_str : isiD S (.str x) [.str] = some true := rfl
theorem isi_str_tup : isiD S (.str x) [.tup] = some false := rfl
theorem isi_str_lst : isiD S (.str x) [.lst] = some false := rfl
theorem isi_str_lst_tup : isiD S (.str x) [.lst, .tup] = some false := rfl
theorem isi_str_bl_str : isiD S (.str x) [.bl, .str] = some true := rfl
theorem isi_tup_int : isiD S (.tup xs) [.int] = some false := rfl
theorem isi_tup_bl : isiD S (.tup xs) [.bl] = some false := rfl
theorem isi_tup_str : isiD S (.tup xs) [.str] = some false := rfl
theorem isi_tup_tup : isiD S (.tup xs) [.tup] = some true := rfl
theorem isi_tup_lst : isiD S (.tup xs) [.lst] = some false := rfl
theorem isi_tup_lst_tup : isiD S (.tup xs) [.lst, .tup] = some true := rfl
theorem isi_tup_bl_str : isiD S (.tup xs) [.bl, .str] = some false := rfl
theorem isi_lst_int : isiD S (.lst xs) [.int] = some false := rfl
theorem isi_lst_bl : isiD S (.lst xs) [.bl] = some false := rfl
theorem isi_lst_str : isiD S (.lst xs) [.str] = some false := rfl
theorem isi_lst_tup : isiD S (.lst xs) [.tup] = some false := rfl
theorem isi_lst_lst : isiD S (.lst xs) [.lst] = some true := rfl
theorem isi_lst_lst_tup : isiD S (.lst xs) [.lst, .tup] = some true := rfl
theorem isi_lst_bl_str : isiD S (.lst xs) [.bl, .str] = some false := rfl
theorem isi_kl_int : isiD S (.kl xs) [.int] = some false := rfl
theorem isi_kl_bl : isiD S (.kl xs) [.bl] = some false := rfl
theorem isi_kl_str : isiD S (.kl xs) [.str] = some false := rfl
theorem isi_kl_tup : isiD S (.kl xs) [.tup] = some false := rfl
theorem isi_kl_lst : isiD S (.kl xs) [.lst] = some true := rfl
theorem isi_kl_lst_tup : isiD S (.kl xs) [.lst, .tup] = some true := rfl
theorem isi_kl_bl_str : isiD S (.kl xs) [.bl, .str] = some false := rfl
theorem endD_rt : endD (.rt d S) = .ok d S := rfl
theorem endD_nx : endD (.nx ρ S) = .ok .non S := rfl
theorem optR_some {α : Type} {u : α} : optR (some u) S = .ok u S := rfl
theorem evB_nil {C : EvC} : evB C .nil ρ S = .nx ρ S := by simp only [evB]
theorem evB_cons {C : EvC} {s : Sm} {r : Sms} : evB C (.cons s r) ρ S = seqO (evS C s ρ S) (evB C r) := by
  simp only [evB]
  rfl
theorem seqO_nx {f : Rho → Store → Out} : seqO (.nx ρ S) f = f ρ S := rfl
theorem seqO_rt {f : Rho → Store → Out} : seqO (.rt d S) f = .rt d S := rfl
theorem seqO_exn {f : Rho → Store → Out} {e : Exn} : seqO (.exn e ρ S) f = .exn e ρ S := rfl
theorem endD_exn {e : Exn} : endD (.exn e ρ S) = .exn e S := rfl
theorem eqD_int (S : Store) (i j : Int) : eqD S (.int i) (.int j) = some (decide (i = j)) := by
  unfold eqD pyIn
  rw [frz_pure rfl, frz_pure rfl]
  rfl
theorem cmp_eq_int : cmpD .eq (.int i) (.int j) S = some (decide (i = j)) := eqD_int S i j
theorem cmp_ne_int : cmpD .ne (.int i) (.int j) S = some (!decide (i = j)) := by
  show (eqD S (.int i) (.int j)).map _ = _
  rw [eqD_int]
  rfl
theorem eqD_bl (S : Store) (a b : Bool) : eqD S (.bl a) (.bl b) = some (a == b) := by
  unfold eqD pyIn
  rw [frz_pure rfl, frz_pure rfl]
  cases a <;> cases b <;> rfl
theorem cmp_eq_bl : cmpD .eq (.bl a) (.bl b) S = some (a == b) := eqD_bl S a b
theorem cmp_ne_bl : cmpD .ne (.bl a) (.bl b) S = some (!(a == b)) := by
  show (eqD S (.bl a) (.bl b)).map _ = _
  rw [eqD_bl]
  rfl
theorem atI_nat {α : Type} (l : List α) (k : Nat) (h : k < l.length) : L2.atI l (k : Int) = l[k]? := by
  unfold L2.atI L2.ixN
  rw [if_pos (by omega), if_pos (by omega)]
  rfl
theorem inF_ints (i : Int) : ∀ ks : List Int, inF (.int i) (ks.map D.int) = decide (i ∈ ks)
  | [] => rfl
  | k :: ks => by
    show ((k == i) || inF (.int i) (ks.map D.int)) = _
    rw [inF_ints i ks]
    by_cases h : i = k
    · subst h
      simp
    · have h2 : (k == i) = false := by
        cases q : k == i with
        | false => rfl
        | true => exact absurd (eq_of_beq q).symm h
      rw [h2, Bool.false_or]
      simp only [List.mem_cons, h, false_or]
theorem flat_ints (ks : List Int) : (ks.map D.int).all D.flat = true := by
  rw [List.all_map]
  exact List.all_eq_true.mpr fun _ _ => rfl
theorem inD_ints (S : Store) (i : Int) (ks : List Int) : inD S (.int i) (.tup (ks.map D.int)) = some (decide (i ∈ ks)) := by
  show (if (D.flat (.int i) && (ks.map D.int).all D.flat) = true then some (inF (.int i) (ks.map D.int)) else _) = _
  rw [flat_ints, inF_ints]
  rfl
theorem inD_intsL (S : Store) (i : Int) (ks : List Int) : inD S (.int i) (.lst (ks.map D.int)) = some (decide (i ∈ ks)) := by
  show (if (D.flat (.int i) && (ks.map D.int).all D.flat) = true then some (inF (.int i) (ks.map D.int)) else _) = _
  rw [flat_ints, inF_ints]
  rfl
/-- whole numbers as data -/
def iD (ks : List Int) : List D := ks.map D.int
theorem iD_nil : iD [] = [] := rfl
theorem iD_cons {k : Int} {ks : List Int} : iD (k :: ks) = .int k :: iD ks := rfl
theorem iD_len {ks : List Int} : (iD ks).length = ks.length := List.length_map ..
theorem iD_app {ks js : List Int} : iD (ks ++ js) = iD ks ++ iD js := List.map_append ..
theorem iD_get {ks : List Int} {i : Nat} : (iD ks)[i]? = (ks[i]?).map D.int := List.getElem?_map ..
theorem iD_pures (ks : List Int) : D.pures (iD ks) = true := pures_iff.mpr fun x hx => by
  obtain ⟨i, _, rfl⟩ := List.mem_map.mp hx
  rfl
theorem in_iD {S : Store} {i : Int} {ks : List Int} : inD S (.int i) (.tup (iD ks)) = some (decide (i ∈ ks)) := inD_ints S i ks
theorem in_iDL {S : Store} {i : Int} {ks : List Int} : inD S (.int i) (.lst (iD ks)) = some (decide (i ∈ ks)) := inD_intsL S i ks
theorem filter_tt {α : Type} {l : List α} : (l.filter fun _ => true) = l := by
  induction l with
  | nil => rfl
  | cons x l ih => rw [List.filter_cons, if_pos rfl, ih]
theorem map_idd {α : Type} {l : List α} : (l.map fun x => x) = l := List.map_id' l
theorem atI_zero {α : Type} {x : α} {xs : List α} : L2.atI (x :: xs) 0 = some x := by
  have := atI_nat (x :: xs) 0 (by simp)
  simpa using this
theorem blsOf_map {α : Type} (f : α → Bool) : ∀ ys : List α, blsOf (ys.map fun x => D.bl (f x)) = some (ys.map f)
  | [] => rfl
  | y :: ys => by simp only [List.map_cons, blsOf, blsOf_map f ys, Option.map_some]
theorem intsOf_map {α : Type} (f : α → Int) : ∀ ys : List α, intsOf (ys.map fun x => D.int (f x)) = some (ys.map f)
  | [] => rfl
  | y :: ys => by simp only [List.map_cons, intsOf, intsOf_map f ys, Option.map_some]
theorem all_map_id {α : Type} {f : α → Bool} {l : List α} : (l.map f).all id = l.all f := by
  rw [List.all_map]
  rfl
theorem cut_tail {x : D} {xs : List D} : cutD (x :: xs) (some 1) none = xs := by
  unfold cutD
  have e : HT.sIx (x :: xs).length 0 (some 1) = 1 := by
    show min _ _ = _
    simp
  rw [e]
  simp [HT.sIx]
theorem cut_tail0 : cutD ([] : List D) (some 1) none = [] := rfl
/-- a comprehension over what stands for l -/
theorem lc_pureA {α : Type} {src : Src} {tg : D → Rho → Store → Res Rho} {tt : M Bool} {te : M D} {ρ : Rho} {S : Store} {w : Nat} (l : List α) (it : α → D) (p : α → Bool) (f : α → D) (ρ' : α → Rho) (hs : ∀ i, src.at i S = some ((l[i]?).map it))
    (h : ∀ x ∈ l, tg (it x) ρ S = .ok (ρ' x) S ∧ tt (ρ' x) S = .ok (p x) S ∧ (p x = true → te (ρ' x) S = .ok (f x) S)) (hw : l.length < w) : lcGo src tg tt te ρ w 0 [] S = .ok ((l.filter p).map f) S := by
  have main : ∀ (k i : Nat) (acc : List D), l.length < k + i → i ≤ l.length → lcGo src tg tt te ρ k i acc S = .ok (acc ++ ((l.drop i).filter p).map f) S := by
    intro k
    induction k with
    | zero => intro i acc hk hi; exact absurd hk (by omega)
    | succ k ih =>
      intro i acc hk hi
      unfold lcGo
      rw [hs i]
      cases e : l[i]? with
      | none =>
        have : l.drop i = [] := List.drop_eq_nil_of_le (List.getElem?_eq_none_iff.mp e)
        simp [this]
      | some x =>
        obtain ⟨h1, h2, h3⟩ := h x (List.mem_of_getElem? e)
        obtain ⟨hi2, hx⟩ := List.getElem?_eq_some_iff.mp e
        have ed : l.drop i = x :: l.drop (i + 1) := by rw [List.drop_eq_getElem_cons hi2, hx]
        simp only [Option.map_some, h1, Res.bindN_ok, h2]
        cases q : p x with
        | true =>
          rw [if_pos rfl, h3 q]
          simp only [Res.bindN_ok]
          rw [ih (i + 1) _ (by omega) (by omega), ed, List.filter_cons, q, if_pos rfl]
          simp
        | false =>
          rw [if_neg Bool.false_ne_true, ih (i + 1) _ (by omega) (by omega), ed, List.filter_cons, q]
          rfl
  rw [main w 0 [] (by omega) (by omega)]
  simp
theorem at_seq {ks : List Int} (i : Nat) : (Src.seq (iD ks)).at i S = some ((ks[i]?).map D.int) := by
  show some ((iD ks)[i]?) = _
  rw [iD_get]
theorem at_enum {ks : List Int} (i : Nat) : (Src.enum (iD ks)).at i S = some ((ks.zipIdx[i]?).map fun p => .tup [.int p.2, .int p.1]) := by
  show some ((iD ks)[i]?.map fun x => D.tup [.int i, x]) = _
  rw [iD_get, List.getElem?_zipIdx]
  cases ks[i]? <;> simp
theorem at_rng {m : Nat} (i : Nat) : (Src.rng 0 m).at i S = some (((List.range m)[i]?).map fun j => .int (j : Nat)) := by
  show some (if i < m then some (D.int (0 + i)) else none) = _
  by_cases h : i < m
  · rw [if_pos h, List.getElem?_range h]
    simp
  · rw [if_neg h, List.getElem?_eq_none (by simpa using h)]
    rfl
theorem blsOf_map' {α : Type} (f : α → Bool) (ys : List α) : (blsOf (ys.map fun x => D.bl (f x))) = some (ys.map f) := blsOf_map f ys
variable {R : Store}
theorem seq_ref0 : seqOf (SO.lst xs :: R) (.ref 0) = some xs := rfl
theorem lst_ref0 : lstOf (SO.lst xs :: R) (.ref 0) = some xs := rfl
theorem own_ref0 : ownOf (SO.lst xs :: R) (.ref 0) = some xs := rfl
theorem truth_ref0 : truth (SO.lst xs :: R) (.ref 0) = some (!xs.isEmpty) := rfl
theorem ix_ref0 : ixD (.ref 0) (.int i) (SO.lst xs :: R) = L2.atI xs i := rfl
theorem app_ref0 : methD true (.ref 0) .append [d] (SO.lst xs :: R) = if xs.length < 16777216 then .ok .non (SO.lst (xs ++ [d]) :: R) else .bad := rfl
theorem tuple_ref0 {m : Bool} : biD m .tuple (.ref 0) (SO.lst xs :: R) = .ok (.tup xs) (SO.lst xs :: R) := rfl
theorem len_ref0 {m : Bool} : biD m .len (.ref 0) (SO.lst xs :: R) = .ok (.int xs.length) (SO.lst xs :: R) := rfl
theorem set_ref0 {v : D} : setIx (.ref 0) (.int i) v (SO.lst xs :: R) = (L2.ixN xs.length i).map fun j => SO.lst (xs.set j v) :: R := rfl
theorem isSome_some {α : Type} {u : α} : (some u).isSome = true := rfl
theorem atI_iD {ks : List Int} {h : Int} (h0 : 0 ≤ h) (h1 : h < ks.length) : L2.atI (iD ks) h = some (.int (ks.getD h.toNat (-1))) := by
  have e : h = ((h.toNat : Nat) : Int) := by omega
  rw [e, atI_nat _ _ (by rw [iD_len]; omega), iD_get]
  simp only [Int.toNat_natCast]
  rw [List.getD_eq_getElem?_getD, List.getElem?_eq_getElem (by omega)]
  rfl
theorem atI_last {α : Type} {l : List α} {x : α} : L2.atI (l ++ [x]) (-1) = some x := by
  unfold L2.atI L2.ixN
  rw [if_neg (by omega), if_pos (by simp; omega)]
  have e : (-1 + ((l ++ [x]).length : Int)).toNat = l.length := by rw [List.length_append, List.length_singleton]; omega
  simp only [Option.bind_some, e]
  exact List.getElem?_concat_length ..
theorem is_int_n : cmpD .is_ (.int i) .non S = some false := rfl
theorem isnot_int_n : cmpD .isnot (.int i) .non S = some true := rfl
theorem is_bl_n : cmpD .is_ (.bl a) .non S = some false := rfl
theorem isnot_bl_n : cmpD .isnot (.bl a) .non S = some true := rfl
theorem is_str_n : cmpD .is_ (.str x) .non S = some false := rfl
theorem isnot_str_n : cmpD .isnot (.str x) .non S = some true := rfl
theorem is_tup_n : cmpD .is_ (.tup xs) .non S = some false := rfl
theorem isnot_tup_n : cmpD .isnot (.tup xs) .non S = some true := rfl
theorem is_lst_n : cmpD .is_ (.lst xs) .non S = some false := rfl
theorem isnot_lst_n : cmpD .isnot (.lst xs) .non S = some true := rfl
theorem is_kl_n : cmpD .is_ (.kl xs) .non S = some false := rfl
theorem isnot_kl_n : cmpD .isnot (.kl xs) .non S = some true := rfl
theorem is_non_n : cmpD .is_ .non .non S = some true := rfl
theorem isnot_non_n : cmpD .isnot .non .non S = some false := rfl
theorem is_bl_bl : cmpD .is_ (.bl a) (.bl b) S = some (decide (a = b)) := rfl
theorem sr_nat {m : Nat} (h : m ≤ 1000000) : srcRange [.int (m : Int)] = some (.rng 0 m) := by
  unfold srcRange
  simp only
  split
  · rw [Int.toNat_natCast]
  · rename_i q
    exact absurd (by omega) q
theorem all_const {α : Type} {l : List α} : (l.all fun _ => true) = true := by
  induction l with
  | nil => rfl
  | cons x l ih => simp
theorem ix3_0 : L2.ixN 3 0 = some 0 := rfl
theorem ix3_1 : L2.ixN 3 1 = some 1 := rfl
theorem ix3_2 : L2.ixN 3 2 = some 2 := rfl
theorem at3_1 {α : Type} {u v z : α} : L2.atI [u, v, z] 1 = some v := rfl
theorem at3_2 {α : Type} {u v z : α} : L2.atI [u, v, z] 2 = some z := rfl
theorem mod_pos {m : Bool} (h : 0 < j) : binD m .mod (.int i) (.int j) S = .ok (.int (i % j)) S := if_pos h
theorem fdiv_pos {m : Bool} (h : 0 < j) (h2 : j < 1073741824) : binD m .fdiv (.int i) (.int j) S = .ok (.int (i / j)) S := if_pos ⟨h, by omega⟩
theorem mul_posL {m : Bool} (h : -1000000000000 < i) (h2 : i < 1000000000000) : binD m .mul (.int i) (.int j) S = .ok (.int (i * j)) S := if_pos (.inl (by omega))
theorem mul_posR {m : Bool} (h : -1000000000000 < j) (h2 : j < 1000000000000) : binD m .mul (.int i) (.int j) S = .ok (.int (i * j)) S := if_pos (.inr (by omega))
theorem cutD_map {α β : Type} (f : α → β) (l : List α) (lo hi : Option Int) : cutD (l.map f) lo hi = (cutD l lo hi).map f := by
  unfold cutD
  rw [List.length_map, List.map_take, List.map_drop]
theorem cutD_le {α : Type} (l : List α) (lo hi : Option Int) : (cutD l lo hi).length ≤ l.length := by
  unfold cutD
  rw [List.length_take, List.length_drop]
  omega
theorem cut_iD {ks : List Int} : cutD (iD ks) lo hi = iD (cutD ks lo hi) := cutD_map D.int ks lo hi
theorem cut_one {α : Type} {u : α} {l : List α} : cutD (u :: l) none (some 1) = [u] := by
  unfold cutD
  have e : HT.sIx (u :: l).length (u :: l).length (some 1) = 1 := by
    show min _ _ = _
    simp
  rw [e]
  simp [HT.sIx]
theorem seq_tupD : seqOf S (.tup xs) = some xs := rfl
theorem seq_lstD : seqOf S (.lst xs) = some xs := rfl
theorem mm_int {mx : Bool} : mm2 mx (.int i) (.int j) = some (.int (if mx then (if j > i then j else i) else (if j < i then j else i))) := rfl
theorem intsOf_iD {ks : List Int} : intsOf (iD ks) = some ks := by
  have := intsOf_map (fun x : Int => x) ks
  rw [List.map_id'] at this
  exact this
theorem sset_tup {m : Bool} {ks : List Int} (h : ks.length < 60) : biD m .sset (.tup (iD ks)) S = newL m (iD (sset ks)) S := by
  show (match (some (iD ks)).bind intsOf with
    | some ns => if ns.length < 60 then newL m ((sset ns).map D.int) S else .bad
    | none => .bad) = _
  simp only [Option.bind_some, intsOf_iD, if_pos h]
  rfl
theorem sset_lst {m : Bool} {ks : List Int} (h : ks.length < 60) : biD m .sset (.lst (iD ks)) S = newL m (iD (sset ks)) S := by
  show (match (some (iD ks)).bind intsOf with
    | some ns => if ns.length < 60 then newL m ((sset ns).map D.int) S else .bad
    | none => .bad) = _
  simp only [Option.bind_some, intsOf_iD, if_pos h]
  rfl
end
end DL
namespace K40
open PySem DL L2
def top (i : Nat) : Stmt := PySem.Challenge.pw_thrownkinds_k40_main_covers_of_kinds.main.body.getD i (.Pass ⟨0, 0, 0, 0⟩)
def b0 : Sms := (.cons (.ret (.and (.isi (.var 0) [.int]) (.not (.isi (.var 0) [.bl])))) .nil)
def b1 : Sms := (.cons (.ret (.and (.call 0 (.cons (.var 0) .nil)) (.chain .le .le (.var 1) (.var 0) (.var 2)))) .nil)
def b2 : Sms := (.cons (.ret (.and (.isi (.var 0) [.tup]) (.bcall false .all (.lc false (.call 0 (.cons (.var 1) .nil)) (.name 1) (.val (.var 0)) .nil [1])))) .nil)
def b3 : Sms := (.cons (.ret (.bcall false .all (.lc false (.cmp .lt (.var 1) (.var 2)) (.tup [1, 2]) (.zip (.var 0) (.slice false (.var 0) (some (.con (.int 1))) none)) .nil [1, 2]))) .nil)
def b4 : Sms := (.cons (.ret (.ite (.isi (.var 0) [.lst, .tup]) (.bcall false .tuple (.lc false (.call 4 (.cons (.var 1) .nil)) (.name 1) (.val (.var 0)) .nil [1])) (.var 0))) .nil)
def b5 : Sms := (.cons (.asg (.name 1) (.lst true .nil)) (.cons (.for_ (.name 2) (.val (.var 0)) (.cons (.expr (.meth (.var 1) .extend (.cons (.var 2) .nil))) .nil)) (.cons (.ret (.var 1)) .nil)))
def b6 : Sms := (.cons (.ret (.bcall false .tuple (.bcall false .sset (.var 0)))) .nil)
def b7 : Sms := (.cons (.ite (.or (.not (.call 2 (.cons (.var 0) .nil))) (.or (.not (.chain .le .le (.con (.int 1)) (.bcall false .len (.var 0)) (.glob "MOST_KINDS"))) (.cmp .ne (.ix (.var 0) (.con (.int 0))) (.neg (.con (.int 1)))))) (.cons (.ret (.con (.bl false))) .nil) .nil) (.cons (.ret (.bcall false .all (.lc false (.chain .le .lt (.con (.int 0)) (.var 2) (.bin false .add (.var 1) (.con (.int 1)))) (.tup [1, 2]) (.enum (.slice false (.var 0) (some (.con (.int 1))) none)) .nil [1, 2]))) .nil))
def b8 : Sms := (.cons (.asg (.name 1) (.call 4 (.cons (.var 0) .nil))) (.cons (.ite (.not (.call 7 (.cons (.var 1) .nil))) (.cons (.raise "Unfit" .nil) .nil) .nil) (.cons (.ret (.var 1)) .nil)))
def b9 : Sms := (.cons (.ite (.not (.call 1 (.cons (.var 1) (.cons (.con (.int 0)) (.cons (.bin false .sub (.bcall false .len (.var 0)) (.con (.int 1))) .nil))))) (.cons (.raise "Unfit" .nil) .nil) .nil) (.cons (.ret (.var 1)) .nil))
def b10 : Sms := (.cons (.par 2 3 (.lst true .nil) (.var 1)) (.cons (.while_ (.cmp .ge (.var 3) (.con (.int 0))) (.cons (.expr (.meth (.var 2) .append (.cons (.var 3) .nil))) (.cons (.asg (.name 3) (.ix (.var 0) (.var 3))) .nil))) (.cons (.ret (.bcall false .tuple (.var 2))) .nil)))
def b11 : Sms := (.cons (.ret (.cmp .in_ (.var 2) (.call 10 (.cons (.var 0) (.cons (.var 1) .nil))))) .nil)
def b12 : Sms := (.cons (.ret (.bcall false .tuple (.lc false (.var 2) (.name 2) (.range (.cons (.bcall false .len (.var 0)) .nil)) (.cons (.call 11 (.cons (.var 0) (.cons (.var 2) (.cons (.var 1) .nil)))) .nil) [2]))) .nil)
def b13 : Sms := (.cons (.asg (.name 3) (.call 8 (.cons (.var 0) .nil))) (.cons (.ret (.call 11 (.cons (.var 3) (.cons (.call 9 (.cons (.var 3) (.cons (.var 1) .nil))) (.cons (.call 9 (.cons (.var 3) (.cons (.var 2) .nil))) .nil))))) .nil))
def b14 : Sms := (.cons (.asg (.name 2) (.call 8 (.cons (.var 0) .nil))) (.cons (.ret (.call 12 (.cons (.var 2) (.cons (.call 9 (.cons (.var 2) (.cons (.var 1) .nil))) .nil)))) .nil))
def b15 : Sms := (.cons (.ret (.and (.call 2 (.cons (.var 1) .nil)) (.and (.call 3 (.cons (.var 1) .nil)) (.bcall false .all (.lc false (.chain .le .lt (.con (.int 0)) (.var 2) (.bcall false .len (.var 0))) (.name 2) (.val (.var 1)) .nil [2]))))) .nil)
def b16 : Sms := (.cons (.asg (.name 2) (.call 4 (.cons (.var 1) .nil))) (.cons (.ite (.not (.call 15 (.cons (.var 0) (.cons (.var 2) .nil)))) (.cons (.raise "Unfit" .nil) .nil) .nil) (.cons (.ret (.var 2)) .nil)))
def b17 : Sms := (.cons (.ret (.call 6 (.cons (.call 5 (.cons (.lc false (.call 12 (.cons (.var 0) (.cons (.var 2) .nil))) (.name 2) (.val (.var 1)) .nil [2]) .nil)) .nil))) .nil)
def b18 : Sms := (.cons (.asg (.name 2) (.lst true .nil)) (.cons (.for_ (.name 3) (.val (.var 1)) (.cons (.ite (.not (.bcall false .any (.lc false (.and (.cmp .ne (.var 3) (.var 4)) (.call 11 (.cons (.var 0) (.cons (.var 3) (.cons (.var 4) .nil))))) (.name 4) (.val (.var 1)) .nil [4]))) (.cons (.expr (.meth (.var 2) .append (.cons (.var 3) .nil))) .nil) .nil) .nil)) (.cons (.ret (.call 6 (.cons (.var 2) .nil))) .nil)))
def b19 : Sms := (.cons (.asg (.name 2) (.call 8 (.cons (.var 0) .nil))) (.cons (.ret (.call 17 (.cons (.var 2) (.cons (.call 16 (.cons (.var 2) (.cons (.var 1) .nil))) .nil)))) .nil))
def b20 : Sms := (.cons (.asg (.name 2) (.call 8 (.cons (.var 0) .nil))) (.cons (.ret (.call 18 (.cons (.var 2) (.cons (.call 16 (.cons (.var 2) (.cons (.var 1) .nil))) .nil)))) .nil))
def b21 : Sms := (.cons (.asg (.name 2) (.ite (.cmp .lt (.var 1) (.bcall false .len (.var 0))) (.ix (.var 0) (.var 1)) (.con (.int 0)))) (.cons (.ret (.lst true (.cons (.bin false .mul (.bcall false .abs (.var 2)) (.bcall false .int (.cmp .ge (.bcall false .abs (.var 2)) (.bin false .pow (.con (.int 10)) (.con (.int 18)))))) (.cons (.bin false .add (.bin false .add (.bin false .mod (.bcall false .int (.var 2)) (.con (.int 2305843009213693951))) (.bin false .mul (.con (.int 39373)) (.var 1))) (.con (.int 25178040))) (.cons (.con (.int 0)) .nil))))) .nil))
def b22 : Sms := (.cons (.ite (.cmp .gt (.ix (.var 0) (.con (.int 0))) (.con (.int 0))) (.cons (.asg (.name 5) (.bin false .mod (.bcall false .int (.ix (.var 0) (.con (.int 0)))) (.var 1))) (.cons (.asg (.ix (.var 0) (.con (.int 0))) (.bin false .fdiv (.ix (.var 0) (.con (.int 0))) (.var 1))) (.cons (.ret (.var 5)) .nil))) .nil) (.cons (.asg (.ix (.var 0) (.con (.int 2))) (.bin false .add (.ix (.var 0) (.con (.int 2))) (.con (.int 1)))) (.cons (.asg (.name 2) (.bin false .mod (.bcall false .int (.bin false .mul (.bin false .add (.ix (.var 0) (.con (.int 1))) (.bin false .mul (.con (.int 48271)) (.ix (.var 0) (.con (.int 2))))) (.bin false .add (.con (.int 39373)) (.ix (.var 0) (.con (.int 2)))))) (.con (.int 2147483647)))) (.cons (.asg (.name 3) (.bin false .add (.bin false .mod (.bcall false .int (.var 2)) (.con (.int 40009))) (.con (.int 7)))) (.cons (.asg (.name 4) (.bin false .mod (.bcall false .int (.bin false .mul (.bin false .add (.bin false .add (.var 2) (.ix (.var 0) (.con (.int 2)))) (.bin false .fdiv (.ix (.var 0) (.con (.int 1))) (.con (.int 1000003)))) (.var 3))) (.con (.int 2147483629)))) (.cons (.ret (.bin false .mod (.bcall false .int (.bin false .fdiv (.bin false .mod (.bcall false .int (.bin false .add (.bin false .mul (.var 4) (.con (.int 48271))) (.var 2))) (.con (.int 2147483587))) (.con (.int 64)))) (.var 1))) .nil))))))
def b23 : Sms := (.cons (.asg (.name 2) (.or (.bcall true .list (.slice false (.var 0) none (some (.var 1)))) (.lst true (.cons (.con (.int 0)) .nil)))) (.cons (.for_ (.tup [3, 4]) (.enum (.slice false (.var 0) (some (.var 1)) (some (.con (.int 63))))) (.cons (.asg (.name 5) (.bin false .mod (.bcall false .int (.var 3)) (.var 1))) (.cons (.asg (.ix (.var 2) (.var 5)) (.bin false .add (.ix (.var 2) (.var 5)) (.bin false .mul (.var 4) (.bin false .add (.var 3) (.con (.int 2)))))) .nil))) (.cons (.ret (.var 2)) .nil)))
def b24 : Sms := (.cons (.par 4 5 (.bcall true .list (.var 1)) (.lst true .nil)) (.cons (.for_ (.name 3) (.range (.cons (.mm false (.bcall false .int (.var 2)) (.bcall false .len (.var 4))) .nil)) (.cons (.expr (.meth (.var 5) .append (.cons (.meth (.var 4) .pop (.cons (.call 22 (.cons (.var 0) (.cons (.bcall false .len (.var 4)) .nil))) .nil)) .nil))) .nil)) (.cons (.ret (.var 5)) .nil)))
def b25 : Sms := (.cons (.ret (.ite (.isi (.var 0) [.lst, .tup]) (.lc false (.call 25 (.cons (.var 1) .nil)) (.name 1) (.val (.var 0)) .nil [1]) (.var 0))) .nil)
def b26 : Sms := (.cons (.ite (.isi (.var 1) [.lst, .tup]) (.cons (.ite (.or (.cmp .ne (.isi (.var 0) [.lst]) (.isi (.var 1) [.lst])) (.cmp .ne (.isi (.var 0) [.tup]) (.isi (.var 1) [.tup]))) (.cons (.ret (.con (.bl false))) .nil) .nil) (.cons (.ret (.and (.cmp .eq (.bcall false .len (.var 0)) (.bcall false .len (.var 1))) (.bcall false .all (.lc false (.call 26 (.cons (.var 2) (.cons (.var 3) .nil))) (.tup [2, 3]) (.zip (.var 0) (.var 1)) .nil [2, 3])))) .nil)) .nil) (.cons (.ite (.cmp .is_ (.var 1) (.con .non)) (.cons (.ret (.cmp .is_ (.var 0) (.con .non))) .nil) .nil) (.cons (.ite (.isi (.var 1) [.bl, .str]) (.cons (.ret (.and (.cmp .eq (.isi (.var 0) [.bl]) (.isi (.var 1) [.bl])) (.and (.cmp .eq (.isi (.var 0) [.str]) (.isi (.var 1) [.str])) (.cmp .eq (.var 0) (.var 1))))) .nil) .nil) (.cons (.ret (.and (.isi (.var 0) [.int]) (.and (.not (.isi (.var 0) [.bl])) (.cmp .eq (.var 0) (.var 1))))) .nil))))
def b27 : Sms := (.cons (.ret (.bin false .add (.tup (.cons (.neg (.con (.int 1))) .nil)) (.bcall false .tuple (.lc false (.call 22 (.cons (.var 0) (.cons (.bin false .add (.var 2) (.con (.int 1))) .nil))) (.name 2) (.range (.cons (.call 22 (.cons (.var 0) (.cons (.var 1) .nil))) .nil)) .nil [2])))) .nil)
def b28 : Sms := (.cons (.asg (.name 2) (.lst true (.cons (.var 1) .nil))) (.cons (.for_ (.name 3) (.range (.cons (.bcall false .len (.var 0)) .nil)) (.cons (.ite (.cmp .ge (.ix (.var 0) (.ix (.var 2) (.neg (.con (.int 1))))) (.con (.int 0))) (.cons (.expr (.meth (.var 2) .append (.cons (.ix (.var 0) (.ix (.var 2) (.neg (.con (.int 1))))) .nil))) .nil) .nil) .nil)) (.cons (.ret (.var 2)) .nil)))
def b29 : Sms := (.cons (.ret (.bcall false .tuple (.bcall false .sset (.var 0)))) .nil)
def b30 : Sms := (.cons (.ret (.bcall false .tuple (.lc false (.var 2) (.name 2) (.range (.cons (.bcall false .len (.var 0)) .nil)) (.cons (.cmp .ne (.lc false (.var 3) (.name 3) (.val (.call 28 (.cons (.var 0) (.cons (.var 2) .nil)))) (.cons (.cmp .in_ (.var 3) (.var 1)) .nil) [3]) (.lst false .nil)) .nil) [2]))) .nil)
def b31 : Sms := (.cons (.ret (.call 29 (.cons (.lc false (.var 2) (.name 2) (.val (.var 1)) (.cons (.cmp .eq (.lc false (.var 3) (.name 3) (.val (.slice false (.call 28 (.cons (.var 0) (.cons (.var 2) .nil))) (some (.con (.int 1))) none)) (.cons (.cmp .in_ (.var 3) (.var 1)) .nil) [3]) (.lst false .nil)) .nil) [2]) .nil))) .nil)
def b32 : Sms := (.cons (.asg (.name 1) (.call 27 (.cons (.var 0) (.cons (.con (.int 7)) .nil)))) (.cons (.asg (.name 2) (.bcall false .len (.var 1))) (.cons (.asg (.tup [7, 8]) (.lc false (.call 29 (.cons (.call 24 (.cons (.var 0) (.cons (.bcall false .lrg (.var 2)) (.cons (.call 22 (.cons (.var 0) (.cons (.con (.int 5)) .nil))) .nil)))) .nil)) (.name 14) (.range (.cons (.con (.int 2)) .nil)) .nil [14])) (.cons (.par 9 10 (.call 30 (.cons (.var 1) (.cons (.var 7) .nil))) (.call 31 (.cons (.var 1) (.cons (.var 7) .nil)))) (.cons (.asg (.name 3) (.lst false (.cons (.call 19 (.cons (.call 25 (.cons (.var 1) .nil)) (.cons (.var 7) .nil))) (.cons (.call 20 (.cons (.var 1) (.cons (.bcall false .list (.var 7)) .nil))) (.cons (.call 19 (.cons (.var 1) (.cons (.var 10) .nil))) (.cons (.call 19 (.cons (.var 1) (.cons (.var 9) .nil))) (.cons (.call 20 (.cons (.var 1) (.cons (.var 9) .nil))) .nil))))))) (.cons (.ite (.not (.call 26 (.cons (.var 3) (.cons (.lst false (.cons (.var 9) (.cons (.var 10) (.cons (.var 9) (.cons (.var 9) (.cons (.var 10) .nil)))))) .nil)))) (.cons (.ret (.con (.bl false))) .nil) .nil) (.cons (.asg (.name 4) (.call 29 (.cons (.bin false .add (.var 7) (.var 8)) .nil))) (.cons (.ite (.not (.call 26 (.cons (.call 19 (.cons (.var 1) (.cons (.var 4) .nil))) (.cons (.call 29 (.cons (.bin false .add (.var 9) (.call 30 (.cons (.var 1) (.cons (.var 8) .nil)))) .nil)) .nil)))) (.cons (.ret (.con (.bl false))) .nil) .nil) (.cons (.for_ (.name 5) (.val (.var 10)) (.cons (.asg (.name 11) (.bcall false .tuple (.lc false (.var 6) (.name 6) (.val (.var 7)) (.cons (.cmp .ne (.var 6) (.var 5)) .nil) [6]))) (.cons (.ite (.or (.cmp .eq (.call 19 (.cons (.var 1) (.cons (.var 11) .nil))) (.var 9)) (.cmp .in_ (.var 5) (.call 19 (.cons (.var 1) (.cons (.var 11) .nil))))) (.cons (.ret (.con (.bl false))) .nil) .nil) .nil))) (.cons (.for_ (.name 6) (.val (.var 7)) (.cons (.ite (.and (.cmp .notin (.var 6) (.var 10)) (.cmp .ne (.call 19 (.cons (.var 1) (.cons (.bcall false .tuple (.lc false (.var 5) (.name 5) (.val (.var 7)) (.cons (.cmp .ne (.var 5) (.var 6)) .nil) [5])) .nil))) (.var 9))) (.cons (.ret (.con (.bl false))) .nil) .nil) .nil)) (.cons (.par 12 13 (.call 22 (.cons (.var 0) (.cons (.var 2) .nil))) (.call 22 (.cons (.var 0) (.cons (.var 2) .nil)))) (.cons (.asg (.name 3) (.lst false (.cons (.call 19 (.cons (.var 1) (.cons (.tup (.cons (.var 12) .nil)) .nil))) (.cons (.call 13 (.cons (.var 1) (.cons (.var 13) (.cons (.var 12) .nil)))) (.cons (.call 19 (.cons (.var 1) (.cons (.tup (.cons (.con (.int 0)) .nil)) .nil))) (.cons (.call 19 (.cons (.var 1) (.cons (.tup .nil) .nil))) .nil)))))) (.cons (.asg (.name 3) (.bin false .add (.var 3) (.lst false (.cons (.call 20 (.cons (.var 1) (.cons (.bcall false .trg (.var 2)) .nil))) (.cons (.call 20 (.cons (.var 1) (.cons (.tup .nil) .nil))) .nil))))) (.cons (.ret (.call 26 (.cons (.var 3) (.cons (.lst false (.cons (.call 14 (.cons (.var 1) (.cons (.var 12) .nil))) (.cons (.cmp .in_ (.var 13) (.call 19 (.cons (.var 1) (.cons (.tup (.cons (.var 12) .nil)) .nil)))) (.cons (.bcall false .trg (.var 2)) (.cons (.tup .nil) (.cons (.tup (.cons (.con (.int 0)) .nil)) (.cons (.tup .nil) .nil))))))) .nil)))) .nil))))))))))))))
def b33 : Sms := (.cons (.asg (.name 1) (.call 21 (.cons (.call 23 (.cons (.var 0) (.cons (.con (.int 1)) .nil))) (.cons (.con (.int 0)) .nil)))) (.cons (.ret (.bcall false .all (.lc false (.call 32 (.cons (.var 1) .nil)) (.name 2) (.range (.cons (.con (.int 10)) .nil)) .nil [2]))) .nil))
/-- is_number -/
def d0 : DT := ⟨"is_number", ["thing"], ["thing"], [], true, b0, top 3⟩
/-- is_within -/
def d1 : DT := ⟨"is_within", ["thing", "least", "most"], ["thing", "least", "most"], [], true, b1, top 4⟩
/-- are_numbers -/
def d2 : DT := ⟨"are_numbers", ["thing"], ["thing", "own"], [], true, b2, top 5⟩
/-- ascends -/
def d3 : DT := ⟨"ascends", ["row"], ["row", "one", "other"], [], true, b3, top 6⟩
/-- tupled -/
def d4 : DT := ⟨"tupled", ["value"], ["value", "own"], [], true, b4, top 7⟩
/-- joined -/
def d5 : DT := ⟨"joined", ["rows"], ["rows", "found", "own"], [], true, b5, top 8⟩
/-- set_of -/
def d6 : DT := ⟨"set_of", ["row"], ["row"], [], false, b6, top 9⟩
/-- is_kinds -/
def d7 : DT := ⟨"is_kinds", ["thing"], ["thing", "place", "own"], [], true, b7, top 12⟩
/-- sure_kinds -/
def d8 : DT := ⟨"sure_kinds", ["value"], ["value", "own"], [], true, b8, top 13⟩
/-- sure_kind -/
def d9 : DT := ⟨"sure_kind", ["kinds", "value"], ["kinds", "value"], [], true, b9, top 14⟩
/-- line_in -/
def d10 : DT := ⟨"line_in", ["kinds", "kind"], ["kinds", "kind", "found", "here"], [], true, b10, top 15⟩
/-- is_under_in -/
def d11 : DT := ⟨"is_under_in", ["kinds", "one", "other"], ["kinds", "one", "other"], [], true, b11, top 16⟩
/-- under_in -/
def d12 : DT := ⟨"under_in", ["kinds", "kind"], ["kinds", "kind", "own"], [], true, b12, top 17⟩
/-- is_under -/
def d13 : DT := ⟨"is_under", ["kinds", "one", "other"], ["kinds", "one", "other", "own"], [], true, b13, top 18⟩
/-- under_kinds -/
def d14 : DT := ⟨"under_kinds", ["kinds", "kind"], ["kinds", "kind", "own"], [], true, b14, top 19⟩
/-- is_kind_set -/
def d15 : DT := ⟨"is_kind_set", ["kinds", "thing"], ["kinds", "thing", "own"], [], true, b15, top 21⟩
/-- sure_kind_set -/
def d16 : DT := ⟨"sure_kind_set", ["kinds", "value"], ["kinds", "value", "own"], [], true, b16, top 22⟩
/-- covered_in -/
def d17 : DT := ⟨"covered_in", ["kinds", "row"], ["kinds", "row", "own"], [], true, b17, top 23⟩
/-- heads_in -/
def d18 : DT := ⟨"heads_in", ["kinds", "row"], ["kinds", "row", "found", "own", "other"], [], true, b18, top 24⟩
/-- covered_kinds -/
def d19 : DT := ⟨"covered_kinds", ["kinds", "row"], ["kinds", "row", "own"], [], true, b19, top 25⟩
/-- head_kinds -/
def d20 : DT := ⟨"head_kinds", ["kinds", "row"], ["kinds", "row", "own"], [], true, b20, top 26⟩
/-- _law_box -/
def d21 : DT := ⟨"_law_box", ["script", "k"], ["script", "k", "bit_so"], [], false, b21, top 28⟩
/-- _law_take -/
def d22 : DT := ⟨"_law_take", ["tin", "below_so"], ["tin", "below_so", "once_so", "wide_so", "twice_so", "drawn_so"], [], false, b22, top 29⟩
/-- _law_cells -/
def d23 : DT := ⟨"_law_cells", ["script", "most_so"], ["script", "most_so", "cells_so", "k", "bit_so", "at_so"], [], true, b23, top 30⟩
/-- _law_pick -/
def d24 : DT := ⟨"_law_pick", ["tin", "goods_so", "count_so"], ["tin", "goods_so", "count_so", "lap", "pool_so", "found"], [], false, b24, top 31⟩
/-- _law_lists -/
def d25 : DT := ⟨"_law_lists", ["matter"], ["matter", "bit"], [], true, b25, top 32⟩
/-- _law_same -/
def d26 : DT := ⟨"_law_same", ["got", "due"], ["got", "due", "mine", "its"], [], true, b26, top 33⟩
/-- _law_kinds -/
def d27 : DT := ⟨"_law_kinds", ["tin", "most_so"], ["tin", "most_so", "k"], [], false, b27, top 34⟩
/-- _law_line -/
def d28 : DT := ⟨"_law_line", ["kinds_so", "kind_so"], ["kinds_so", "kind_so", "found", "lap"], [], true, b28, top 35⟩
/-- _law_set -/
def d29 : DT := ⟨"_law_set", ["goods_so"], ["goods_so"], [], false, b29, top 36⟩
/-- _law_cover -/
def d30 : DT := ⟨"_law_cover", ["kinds_so", "row_so"], ["kinds_so", "row_so", "k", "own"], [], true, b30, top 37⟩
/-- _law_heads -/
def d31 : DT := ⟨"_law_heads", ["kinds_so", "row_so"], ["kinds_so", "row_so", "k", "own"], [], true, b31, top 38⟩
/-- _law_right -/
def d32 : DT := ⟨"_law_right", ["tin"], ["tin", "kinds_so", "many_so", "got", "both_so", "own", "k", "row_so", "far_so", "cover_so", "heads_so", "less_so", "one", "two", "lap"], [], false, b32, top 39⟩
/-- law -/
def d33 : DT := ⟨"law", ["script"], ["script", "tin", "lap"], [], false, b33, top 40⟩
def tbl : List DT := [d0, d1, d2, d3, d4, d5, d6, d7, d8, d9, d10, d11, d12, d13, d14, d15, d16, d17, d18, d19, d20, d21, d22, d23, d24, d25, d26, d27, d28, d29, d30, d31, d32, d33]
def cns : List Str := ["MOST_KINDS"]
def cls : List Str := ["Unfit"]
def bns : List Str := ["abs", "all", "any", "bool", "enumerate", "int", "isinstance", "len", "list", "min", "range", "set", "sorted", "str", "tuple", "zip"]
def cis : List (Str × Int) := [("MOST_KINDS", 8)]
def glo : Glo := ⟨fnsOf tbl, cls, cis.map (·.1), bns⟩
end K40
namespace K40
open PySem DL L2
theorem ok0 : DOk glo d0 := by
  refine ⟨by decide +kernel, by decide +kernel, by decide +kernel, fun _ _ _ _ _ _ us hl => match us, hl with | [_], _ => rfl, fun q hq => ?_⟩
  exact absurd hq List.not_mem_nil
theorem ok1 : DOk glo d1 := by
  refine ⟨by decide +kernel, by decide +kernel, by decide +kernel, fun _ _ _ _ _ _ us hl => match us, hl with | [_, _, _], _ => rfl, fun q hq => ?_⟩
  exact absurd hq List.not_mem_nil
theorem ok2 : DOk glo d2 := by
  refine ⟨by decide +kernel, by decide +kernel, by decide +kernel, fun _ _ _ _ _ _ us hl => match us, hl with | [_], _ => rfl, fun q hq => ?_⟩
  exact absurd hq List.not_mem_nil
theorem ok3 : DOk glo d3 := by
  refine ⟨by decide +kernel, by decide +kernel, by decide +kernel, fun _ _ _ _ _ _ us hl => match us, hl with | [_], _ => rfl, fun q hq => ?_⟩
  exact absurd hq List.not_mem_nil
theorem ok4 : DOk glo d4 := by
  refine ⟨by decide +kernel, by decide +kernel, by decide +kernel, fun _ _ _ _ _ _ us hl => match us, hl with | [_], _ => rfl, fun q hq => ?_⟩
  exact absurd hq List.not_mem_nil
theorem ok5 : DOk glo d5 := by
  refine ⟨by decide +kernel, by decide +kernel, by decide +kernel, fun _ _ _ _ _ _ us hl => match us, hl with | [_], _ => rfl, fun q hq => ?_⟩
  exact absurd hq List.not_mem_nil
theorem ok6 : DOk glo d6 := by
  refine ⟨by decide +kernel, by decide +kernel, by decide +kernel, fun _ _ _ _ _ _ us hl => match us, hl with | [_], _ => rfl, fun q hq => ?_⟩
  exact absurd hq List.not_mem_nil
theorem ok7 : DOk glo d7 := by
  refine ⟨by decide +kernel, by decide +kernel, by decide +kernel, fun _ _ _ _ _ _ us hl => match us, hl with | [_], _ => rfl, fun q hq => ?_⟩
  exact absurd hq List.not_mem_nil
theorem ok8 : DOk glo d8 := by
  refine ⟨by decide +kernel, by decide +kernel, by decide +kernel, fun _ _ _ _ _ _ us hl => match us, hl with | [_], _ => rfl, fun q hq => ?_⟩
  exact absurd hq List.not_mem_nil
theorem ok9 : DOk glo d9 := by
  refine ⟨by decide +kernel, by decide +kernel, by decide +kernel, fun _ _ _ _ _ _ us hl => match us, hl with | [_, _], _ => rfl, fun q hq => ?_⟩
  exact absurd hq List.not_mem_nil
theorem ok10 : DOk glo d10 := by
  refine ⟨by decide +kernel, by decide +kernel, by decide +kernel, fun _ _ _ _ _ _ us hl => match us, hl with | [_, _], _ => rfl, fun q hq => ?_⟩
  exact absurd hq List.not_mem_nil
theorem ok11 : DOk glo d11 := by
  refine ⟨by decide +kernel, by decide +kernel, by decide +kernel, fun _ _ _ _ _ _ us hl => match us, hl with | [_, _, _], _ => rfl, fun q hq => ?_⟩
  exact absurd hq List.not_mem_nil
theorem ok12 : DOk glo d12 := by
  refine ⟨by decide +kernel, by decide +kernel, by decide +kernel, fun _ _ _ _ _ _ us hl => match us, hl with | [_, _], _ => rfl, fun q hq => ?_⟩
  exact absurd hq List.not_mem_nil
theorem ok13 : DOk glo d13 := by
  refine ⟨by decide +kernel, by decide +kernel, by decide +kernel, fun _ _ _ _ _ _ us hl => match us, hl with | [_, _, _], _ => rfl, fun q hq => ?_⟩
  exact absurd hq List.not_mem_nil
theorem ok14 : DOk glo d14 := by
  refine ⟨by decide +kernel, by decide +kernel, by decide +kernel, fun _ _ _ _ _ _ us hl => match us, hl with | [_, _], _ => rfl, fun q hq => ?_⟩
  exact absurd hq List.not_mem_nil
theorem ok15 : DOk glo d15 := by
  refine ⟨by decide +kernel, by decide +kernel, by decide +kernel, fun _ _ _ _ _ _ us hl => match us, hl with | [_, _], _ => rfl, fun q hq => ?_⟩
  exact absurd hq List.not_mem_nil
theorem ok16 : DOk glo d16 := by
  refine ⟨by decide +kernel, by decide +kernel, by decide +kernel, fun _ _ _ _ _ _ us hl => match us, hl with | [_, _], _ => rfl, fun q hq => ?_⟩
  exact absurd hq List.not_mem_nil
theorem ok17 : DOk glo d17 := by
  refine ⟨by decide +kernel, by decide +kernel, by decide +kernel, fun _ _ _ _ _ _ us hl => match us, hl with | [_, _], _ => rfl, fun q hq => ?_⟩
  exact absurd hq List.not_mem_nil
theorem ok18 : DOk glo d18 := by
  refine ⟨by decide +kernel, by decide +kernel, by decide +kernel, fun _ _ _ _ _ _ us hl => match us, hl with | [_, _], _ => rfl, fun q hq => ?_⟩
  exact absurd hq List.not_mem_nil
theorem ok19 : DOk glo d19 := by
  refine ⟨by decide +kernel, by decide +kernel, by decide +kernel, fun _ _ _ _ _ _ us hl => match us, hl with | [_, _], _ => rfl, fun q hq => ?_⟩
  exact absurd hq List.not_mem_nil
theorem ok20 : DOk glo d20 := by
  refine ⟨by decide +kernel, by decide +kernel, by decide +kernel, fun _ _ _ _ _ _ us hl => match us, hl with | [_, _], _ => rfl, fun q hq => ?_⟩
  exact absurd hq List.not_mem_nil
theorem ok21 : DOk glo d21 := by
  refine ⟨by decide +kernel, by decide +kernel, by decide +kernel, fun _ _ _ _ _ _ us hl => match us, hl with | [_, _], _ => rfl, fun q hq => ?_⟩
  exact absurd hq List.not_mem_nil
theorem ok22 : DOk glo d22 := by
  refine ⟨by decide +kernel, by decide +kernel, by decide +kernel, fun _ _ _ _ _ _ us hl => match us, hl with | [_, _], _ => rfl, fun q hq => ?_⟩
  exact absurd hq List.not_mem_nil
theorem ok23 : DOk glo d23 := by
  refine ⟨by decide +kernel, by decide +kernel, by decide +kernel, fun _ _ _ _ _ _ us hl => match us, hl with | [_, _], _ => rfl, fun q hq => ?_⟩
  exact absurd hq List.not_mem_nil
theorem ok24 : DOk glo d24 := by
  refine ⟨by decide +kernel, by decide +kernel, by decide +kernel, fun _ _ _ _ _ _ us hl => match us, hl with | [_, _, _], _ => rfl, fun q hq => ?_⟩
  exact absurd hq List.not_mem_nil
theorem ok25 : DOk glo d25 := by
  refine ⟨by decide +kernel, by decide +kernel, by decide +kernel, fun _ _ _ _ _ _ us hl => match us, hl with | [_], _ => rfl, fun q hq => ?_⟩
  exact absurd hq List.not_mem_nil
theorem ok26 : DOk glo d26 := by
  refine ⟨by decide +kernel, by decide +kernel, by decide +kernel, fun _ _ _ _ _ _ us hl => match us, hl with | [_, _], _ => rfl, fun q hq => ?_⟩
  exact absurd hq List.not_mem_nil
theorem ok27 : DOk glo d27 := by
  refine ⟨by decide +kernel, by decide +kernel, by decide +kernel, fun _ _ _ _ _ _ us hl => match us, hl with | [_, _], _ => rfl, fun q hq => ?_⟩
  exact absurd hq List.not_mem_nil
theorem ok28 : DOk glo d28 := by
  refine ⟨by decide +kernel, by decide +kernel, by decide +kernel, fun _ _ _ _ _ _ us hl => match us, hl with | [_, _], _ => rfl, fun q hq => ?_⟩
  exact absurd hq List.not_mem_nil
theorem ok29 : DOk glo d29 := by
  refine ⟨by decide +kernel, by decide +kernel, by decide +kernel, fun _ _ _ _ _ _ us hl => match us, hl with | [_], _ => rfl, fun q hq => ?_⟩
  exact absurd hq List.not_mem_nil
theorem ok30 : DOk glo d30 := by
  refine ⟨by decide +kernel, by decide +kernel, by decide +kernel, fun _ _ _ _ _ _ us hl => match us, hl with | [_, _], _ => rfl, fun q hq => ?_⟩
  exact absurd hq List.not_mem_nil
theorem ok31 : DOk glo d31 := by
  refine ⟨by decide +kernel, by decide +kernel, by decide +kernel, fun _ _ _ _ _ _ us hl => match us, hl with | [_, _], _ => rfl, fun q hq => ?_⟩
  exact absurd hq List.not_mem_nil
theorem ok32 : DOk glo d32 := by
  refine ⟨by decide +kernel, by decide +kernel, by decide +kernel, fun _ _ _ _ _ _ us hl => match us, hl with | [_], _ => rfl, fun q hq => ?_⟩
  exact absurd hq List.not_mem_nil
theorem ok33 : DOk glo d33 := by
  refine ⟨by decide +kernel, by decide +kernel, by decide +kernel, fun _ _ _ _ _ _ us hl => match us, hl with | [_], _ => rfl, fun q hq => ?_⟩
  exact absurd hq List.not_mem_nil
theorem oks : ∀ d ∈ tbl, DOk glo d := by
  intro d hd
  rcases List.mem_cons.mp hd with e | hd
  · subst e; exact ok0
  rcases List.mem_cons.mp hd with e | hd
  · subst e; exact ok1
  rcases List.mem_cons.mp hd with e | hd
  · subst e; exact ok2
  rcases List.mem_cons.mp hd with e | hd
  · subst e; exact ok3
  rcases List.mem_cons.mp hd with e | hd
  · subst e; exact ok4
  rcases List.mem_cons.mp hd with e | hd
  · subst e; exact ok5
  rcases List.mem_cons.mp hd with e | hd
  · subst e; exact ok6
  rcases List.mem_cons.mp hd with e | hd
  · subst e; exact ok7
  rcases List.mem_cons.mp hd with e | hd
  · subst e; exact ok8
  rcases List.mem_cons.mp hd with e | hd
  · subst e; exact ok9
  rcases List.mem_cons.mp hd with e | hd
  · subst e; exact ok10
  rcases List.mem_cons.mp hd with e | hd
  · subst e; exact ok11
  rcases List.mem_cons.mp hd with e | hd
  · subst e; exact ok12
  rcases List.mem_cons.mp hd with e | hd
  · subst e; exact ok13
  rcases List.mem_cons.mp hd with e | hd
  · subst e; exact ok14
  rcases List.mem_cons.mp hd with e | hd
  · subst e; exact ok15
  rcases List.mem_cons.mp hd with e | hd
  · subst e; exact ok16
  rcases List.mem_cons.mp hd with e | hd
  · subst e; exact ok17
  rcases List.mem_cons.mp hd with e | hd
  · subst e; exact ok18
  rcases List.mem_cons.mp hd with e | hd
  · subst e; exact ok19
  rcases List.mem_cons.mp hd with e | hd
  · subst e; exact ok20
  rcases List.mem_cons.mp hd with e | hd
  · subst e; exact ok21
  rcases List.mem_cons.mp hd with e | hd
  · subst e; exact ok22
  rcases List.mem_cons.mp hd with e | hd
  · subst e; exact ok23
  rcases List.mem_cons.mp hd with e | hd
  · subst e; exact ok24
  rcases List.mem_cons.mp hd with e | hd
  · subst e; exact ok25
  rcases List.mem_cons.mp hd with e | hd
  · subst e; exact ok26
  rcases List.mem_cons.mp hd with e | hd
  · subst e; exact ok27
  rcases List.mem_cons.mp hd with e | hd
  · subst e; exact ok28
  rcases List.mem_cons.mp hd with e | hd
  · subst e; exact ok29
  rcases List.mem_cons.mp hd with e | hd
  · subst e; exact ok30
  rcases List.mem_cons.mp hd with e | hd
  · subst e; exact ok31
  rcases List.mem_cons.mp hd with e | hd
  · subst e; exact ok32
  rcases List.mem_cons.mp hd with e | hd
  · subst e; exact ok33
  exact absurd hd List.not_mem_nil
end K40
namespace K40
open PySem DL
abbrev E (n : Nat) : Nat → List D → Store → Res D := callN (tblOf tbl) (cnOf cis) 1000 n
abbrev C (n : Nat) : EvC := EC (tblOf tbl) (cnOf cis) 1000 n
def isI : D → Bool
  | .int _ => true
  | _ => false
/-- what the law's values are made of -/
def flat : D → Bool
  | .int _ => true
  | .bl _ => true
  | .non => true
  | .str _ => true
  | _ => false
theorem flat_pure : ∀ {x : D}, flat x = true → x.pure = true
  | .int _, _ => rfl
  | .bl _, _ => rfl
  | .non, _ => rfl
  | .str _, _ => rfl
theorem e_num {n : Nat} {x : D} {S : Store} (h : flat x = true) : E (n + 1) 0 [x] S = .ok (.bl (isI x)) S := by
  cases x <;> first | rfl | cases h
theorem e_within {n : Nat} {v lo hi : Int} {S : Store} : E (n + 2) 1 [.int v, .int lo, .int hi] S = .ok (.bl (decide (lo ≤ v) && decide (v ≤ hi))) S := by
  refine callP (fd := d1.fd) rfl rfl rfl rfl (S1 := []) ?_ rfl
  show runB (C (n + 1)) ⟨3, 3, true, b1⟩ _ _ = _
  have q : callN (tblOf tbl) (cnOf cis) 1000 (n + 1) 0 [.int v] [] = .ok (.bl true) [] := e_num rfl
  simp only [b1, runB, ev_0A, ev_1A, ev_2A, ev_3A, ev_4A, ev_5A, ev_6A, ev_7A, ev_8A, ev_9A, ev_10A, ev_11A, ev_12A, ev_13A, ev_14A, ev_15A, ev_16A, ev_17A, ev_18A, ev_19A, ev_20A, ev_21A, evs_0A, evs_1A, evO_0A, evO_1A, evT_0A, evT_1A, evT_2A, evT_3A, evT_4A, evT_5A, evT_6A, evT_7A, evT_8A, evT_9A, evT_10A, evT_11A, evT_12A, evTs_0A, evTs_1A, evI_0A, evI_1A, evI_2A, evI_3A, evI_4A, evG_0A, evG_1A, evG_2A, evS_0A, evS_1A, evS_2A, evS_3A, evS_4A, evS_5A, evS_6A, evS_7A, evS_8A, evS_9A, evS_10A, bindO_ok, bindO_exn, bindO_bad, Res.bind_ok, Res.bind_exn, Res.bind_bad, Res.bindN_ok, optR_some, K0.d, EC, setN, setNs, wipeR, List.map_cons, List.map_nil, List.set_cons_zero, List.set_cons_succ, List.getElem?_cons_zero, List.getElem?_cons_succ, List.cons_append, List.nil_append, List.length_cons, List.length_nil, Option.map_some, Option.map_none, Nat.reduceAdd, Nat.reduceSub, Nat.reduceLeDiff, if_true, if_false, Bool.false_eq_true, List.replicate, evB_nil, evB_cons, seqO_nx, seqO_rt, seqO_exn, endD_exn, cmp_eq_int, cmp_ne_int, cmp_eq_bl, cmp_ne_bl, Bool.not_true, Bool.not_false, List.filterMap_cons, List.filterMap_nil, truth_bl, truth_int, truth_non, truth_tup, truth_lst, cmp_lt, cmp_le, cmp_gt, cmp_ge, cmp_in, cmp_inL, cmp_notin, ix_tup, ix_lst, ix_kl, add_int_true, sub_int_true, add_tup_true, pow_int_true, mul_tup_true, add_lst_true, sl_tup_true, sl_lst_true, sl_kl_true, len_tup_true, tuple_tup_true, list_tup_true, len_lst_true, tuple_lst_true, list_lst_true, len_kl_true, tuple_kl_true, list_kl_true, tuple_ref_true, int_int_true, int_bl_true, abs_int_true, all_lst_true, any_lst_true, sum_lst_true, max_lst_true, add_int_false, sub_int_false, add_tup_false, pow_int_false, mul_tup_false, add_lst_false, sl_tup_false, sl_lst_false, sl_kl_false, len_tup_false, tuple_tup_false, list_tup_false, len_lst_false, tuple_lst_false, list_lst_false, len_kl_false, tuple_kl_false, list_kl_false, tuple_ref_false, int_int_false, int_bl_false, abs_int_false, all_lst_false, any_lst_false, sum_lst_false, max_lst_false, newL_f, newL_t, sv_tup, sv_lst, sv_kl, se_tup, se_lst, se_kl, sz_tup, sz_lst, all_const, beq_self_eq_true, eq_self, decide_true, iD_len, in_iD, in_iDL, filter_tt, map_idd, atI_zero, blsOf_map, intsOf_map, all_map_id, cut_tail, is_int_n, isnot_int_n, is_bl_n, isnot_bl_n, is_str_n, isnot_str_n, is_tup_n, isnot_tup_n, is_lst_n, isnot_lst_n, is_kl_n, isnot_kl_n, is_non_n, isnot_non_n, is_bl_bl, seq_ref0, lst_ref0, own_ref0, truth_ref0, ix_ref0, app_ref0, tuple_ref0, len_ref0, set_ref0, isSome_some, atI_last, ix3_0, ix3_1, ix3_2, at3_1, at3_2, isi_non_int, isi_non_bl, isi_non_str, isi_non_tup, isi_non_lst, isi_non_lst_tup, isi_non_bl_str, isi_bl_int, isi_bl_bl, isi_bl_str, isi_bl_tup, isi_bl_lst, isi_bl_lst_tup, isi_bl_bl_str, isi_int_int, isi_int_bl, isi_int_str, isi_int_tup, isi_int_lst, isi_int_lst_tup, isi_int_bl_str, isi_str_int, isi_str_bl, isi_str_str, isi_str_tup, isi_str_lst, isi_str_lst_tup, isi_str_bl_str, isi_tup_int, isi_tup_bl, isi_tup_str, isi_tup_tup, isi_tup_lst, isi_tup_lst_tup, isi_tup_bl_str, isi_lst_int, isi_lst_bl, isi_lst_str, isi_lst_tup, isi_lst_lst, isi_lst_lst_tup, isi_lst_bl_str, isi_kl_int, isi_kl_bl, isi_kl_str, isi_kl_tup, isi_kl_lst, isi_kl_lst_tup, isi_kl_bl_str, endD_rt, endD_nx, seq_tupD, seq_lstD, mm_int, q]
  by_cases h : lo ≤ v <;> simp [h, seqO_rt, endD_rt]
theorem flats_pures {xs : List D} (h : xs.all flat = true) : D.pures xs = true := pures_iff.mpr fun x hx => flat_pure (List.all_eq_true.mp h x hx)
theorem e_numbers {n : Nat} {xs : List D} {S : Store} (h : xs.all flat = true) (hl : xs.length < 1000) : E (n + 2) 2 [.tup xs] S = .ok (.bl (xs.all isI)) S := by
  have hf : ∀ x ∈ xs, flat x = true := fun x hx => List.all_eq_true.mp h x hx
  refine callP (fd := d2.fd) rfl rfl rfl (by simp only [D.pures, D.pure, Bool.and_true]; exact flats_pures h) (S1 := []) ?_ rfl
  show runB (C (n + 1)) ⟨1, 2, true, b2⟩ _ _ = _
  simp only [b2, runB, ev_0A, ev_1A, ev_2A, ev_3A, ev_4A, ev_5A, ev_6A, ev_7A, ev_8A, ev_9A, ev_10A, ev_11A, ev_12A, ev_13A, ev_14A, ev_15A, ev_16A, ev_17A, ev_18A, ev_19A, ev_20A, ev_21A, evs_0A, evs_1A, evO_0A, evO_1A, evT_0A, evT_1A, evT_2A, evT_3A, evT_4A, evT_5A, evT_6A, evT_7A, evT_8A, evT_9A, evT_10A, evT_11A, evT_12A, evTs_0A, evTs_1A, evI_0A, evI_1A, evI_2A, evI_3A, evI_4A, evG_0A, evG_1A, evG_2A, evS_0A, evS_1A, evS_2A, evS_3A, evS_4A, evS_5A, evS_6A, evS_7A, evS_8A, evS_9A, evS_10A, bindO_ok, bindO_exn, bindO_bad, Res.bind_ok, Res.bind_exn, Res.bind_bad, Res.bindN_ok, optR_some, K0.d, EC, setN, setNs, wipeR, List.map_cons, List.map_nil, List.set_cons_zero, List.set_cons_succ, List.getElem?_cons_zero, List.getElem?_cons_succ, List.cons_append, List.nil_append, List.length_cons, List.length_nil, Option.map_some, Option.map_none, Nat.reduceAdd, Nat.reduceSub, Nat.reduceLeDiff, if_true, if_false, Bool.false_eq_true, List.replicate, evB_nil, evB_cons, seqO_nx, seqO_rt, seqO_exn, endD_exn, cmp_eq_int, cmp_ne_int, cmp_eq_bl, cmp_ne_bl, Bool.not_true, Bool.not_false, List.filterMap_cons, List.filterMap_nil, truth_bl, truth_int, truth_non, truth_tup, truth_lst, cmp_lt, cmp_le, cmp_gt, cmp_ge, cmp_in, cmp_inL, cmp_notin, ix_tup, ix_lst, ix_kl, add_int_true, sub_int_true, add_tup_true, pow_int_true, mul_tup_true, add_lst_true, sl_tup_true, sl_lst_true, sl_kl_true, len_tup_true, tuple_tup_true, list_tup_true, len_lst_true, tuple_lst_true, list_lst_true, len_kl_true, tuple_kl_true, list_kl_true, tuple_ref_true, int_int_true, int_bl_true, abs_int_true, all_lst_true, any_lst_true, sum_lst_true, max_lst_true, add_int_false, sub_int_false, add_tup_false, pow_int_false, mul_tup_false, add_lst_false, sl_tup_false, sl_lst_false, sl_kl_false, len_tup_false, tuple_tup_false, list_tup_false, len_lst_false, tuple_lst_false, list_lst_false, len_kl_false, tuple_kl_false, list_kl_false, tuple_ref_false, int_int_false, int_bl_false, abs_int_false, all_lst_false, any_lst_false, sum_lst_false, max_lst_false, newL_f, newL_t, sv_tup, sv_lst, sv_kl, se_tup, se_lst, se_kl, sz_tup, sz_lst, all_const, beq_self_eq_true, eq_self, decide_true, iD_len, in_iD, in_iDL, filter_tt, map_idd, atI_zero, blsOf_map, intsOf_map, all_map_id, cut_tail, is_int_n, isnot_int_n, is_bl_n, isnot_bl_n, is_str_n, isnot_str_n, is_tup_n, isnot_tup_n, is_lst_n, isnot_lst_n, is_kl_n, isnot_kl_n, is_non_n, isnot_non_n, is_bl_bl, seq_ref0, lst_ref0, own_ref0, truth_ref0, ix_ref0, app_ref0, tuple_ref0, len_ref0, set_ref0, isSome_some, atI_last, ix3_0, ix3_1, ix3_2, at3_1, at3_2, isi_non_int, isi_non_bl, isi_non_str, isi_non_tup, isi_non_lst, isi_non_lst_tup, isi_non_bl_str, isi_bl_int, isi_bl_bl, isi_bl_str, isi_bl_tup, isi_bl_lst, isi_bl_lst_tup, isi_bl_bl_str, isi_int_int, isi_int_bl, isi_int_str, isi_int_tup, isi_int_lst, isi_int_lst_tup, isi_int_bl_str, isi_str_int, isi_str_bl, isi_str_str, isi_str_tup, isi_str_lst, isi_str_lst_tup, isi_str_bl_str, isi_tup_int, isi_tup_bl, isi_tup_str, isi_tup_tup, isi_tup_lst, isi_tup_lst_tup, isi_tup_bl_str, isi_lst_int, isi_lst_bl, isi_lst_str, isi_lst_tup, isi_lst_lst, isi_lst_lst_tup, isi_lst_bl_str, isi_kl_int, isi_kl_bl, isi_kl_str, isi_kl_tup, isi_kl_lst, isi_kl_lst_tup, isi_kl_bl_str, endD_rt, endD_nx, seq_tupD, seq_lstD, mm_int]
  rw [lc_pure xs (fun _ => true) (fun x => .bl (isI x)) (fun x => [some (.tup xs), some x]) (fun i => rfl) (fun x hx => ⟨rfl, rfl, fun _ => by
    have q : callN (tblOf tbl) (cnOf cis) 1000 (n + 1) 0 [x] [] = .ok (.bl (isI x)) [] := e_num (hf x hx)
    simp only [runB, ev_0A, ev_1A, ev_2A, ev_3A, ev_4A, ev_5A, ev_6A, ev_7A, ev_8A, ev_9A, ev_10A, ev_11A, ev_12A, ev_13A, ev_14A, ev_15A, ev_16A, ev_17A, ev_18A, ev_19A, ev_20A, ev_21A, evs_0A, evs_1A, evO_0A, evO_1A, evT_0A, evT_1A, evT_2A, evT_3A, evT_4A, evT_5A, evT_6A, evT_7A, evT_8A, evT_9A, evT_10A, evT_11A, evT_12A, evTs_0A, evTs_1A, evI_0A, evI_1A, evI_2A, evI_3A, evI_4A, evG_0A, evG_1A, evG_2A, evS_0A, evS_1A, evS_2A, evS_3A, evS_4A, evS_5A, evS_6A, evS_7A, evS_8A, evS_9A, evS_10A, bindO_ok, bindO_exn, bindO_bad, Res.bind_ok, Res.bind_exn, Res.bind_bad, Res.bindN_ok, optR_some, K0.d, EC, setN, setNs, wipeR, List.map_cons, List.map_nil, List.set_cons_zero, List.set_cons_succ, List.getElem?_cons_zero, List.getElem?_cons_succ, List.cons_append, List.nil_append, List.length_cons, List.length_nil, Option.map_some, Option.map_none, Nat.reduceAdd, Nat.reduceSub, Nat.reduceLeDiff, if_true, if_false, Bool.false_eq_true, List.replicate, evB_nil, evB_cons, seqO_nx, seqO_rt, seqO_exn, endD_exn, cmp_eq_int, cmp_ne_int, cmp_eq_bl, cmp_ne_bl, Bool.not_true, Bool.not_false, List.filterMap_cons, List.filterMap_nil, truth_bl, truth_int, truth_non, truth_tup, truth_lst, cmp_lt, cmp_le, cmp_gt, cmp_ge, cmp_in, cmp_inL, cmp_notin, ix_tup, ix_lst, ix_kl, add_int_true, sub_int_true, add_tup_true, pow_int_true, mul_tup_true, add_lst_true, sl_tup_true, sl_lst_true, sl_kl_true, len_tup_true, tuple_tup_true, list_tup_true, len_lst_true, tuple_lst_true, list_lst_true, len_kl_true, tuple_kl_true, list_kl_true, tuple_ref_true, int_int_true, int_bl_true, abs_int_true, all_lst_true, any_lst_true, sum_lst_true, max_lst_true, add_int_false, sub_int_false, add_tup_false, pow_int_false, mul_tup_false, add_lst_false, sl_tup_false, sl_lst_false, sl_kl_false, len_tup_false, tuple_tup_false, list_tup_false, len_lst_false, tuple_lst_false, list_lst_false, len_kl_false, tuple_kl_false, list_kl_false, tuple_ref_false, int_int_false, int_bl_false, abs_int_false, all_lst_false, any_lst_false, sum_lst_false, max_lst_false, newL_f, newL_t, sv_tup, sv_lst, sv_kl, se_tup, se_lst, se_kl, sz_tup, sz_lst, all_const, beq_self_eq_true, eq_self, decide_true, iD_len, in_iD, in_iDL, filter_tt, map_idd, atI_zero, blsOf_map, intsOf_map, all_map_id, cut_tail, is_int_n, isnot_int_n, is_bl_n, isnot_bl_n, is_str_n, isnot_str_n, is_tup_n, isnot_tup_n, is_lst_n, isnot_lst_n, is_kl_n, isnot_kl_n, is_non_n, isnot_non_n, is_bl_bl, seq_ref0, lst_ref0, own_ref0, truth_ref0, ix_ref0, app_ref0, tuple_ref0, len_ref0, set_ref0, isSome_some, atI_last, ix3_0, ix3_1, ix3_2, at3_1, at3_2, isi_non_int, isi_non_bl, isi_non_str, isi_non_tup, isi_non_lst, isi_non_lst_tup, isi_non_bl_str, isi_bl_int, isi_bl_bl, isi_bl_str, isi_bl_tup, isi_bl_lst, isi_bl_lst_tup, isi_bl_bl_str, isi_int_int, isi_int_bl, isi_int_str, isi_int_tup, isi_int_lst, isi_int_lst_tup, isi_int_bl_str, isi_str_int, isi_str_bl, isi_str_str, isi_str_tup, isi_str_lst, isi_str_lst_tup, isi_str_bl_str, isi_tup_int, isi_tup_bl, isi_tup_str, isi_tup_tup, isi_tup_lst, isi_tup_lst_tup, isi_tup_bl_str, isi_lst_int, isi_lst_bl, isi_lst_str, isi_lst_tup, isi_lst_lst, isi_lst_lst_tup, isi_lst_bl_str, isi_kl_int, isi_kl_bl, isi_kl_str, isi_kl_tup, isi_kl_lst, isi_kl_lst_tup, isi_kl_bl_str, endD_rt, endD_nx, seq_tupD, seq_lstD, mm_int, q]⟩) hl]
  simp only [runB, ev_0A, ev_1A, ev_2A, ev_3A, ev_4A, ev_5A, ev_6A, ev_7A, ev_8A, ev_9A, ev_10A, ev_11A, ev_12A, ev_13A, ev_14A, ev_15A, ev_16A, ev_17A, ev_18A, ev_19A, ev_20A, ev_21A, evs_0A, evs_1A, evO_0A, evO_1A, evT_0A, evT_1A, evT_2A, evT_3A, evT_4A, evT_5A, evT_6A, evT_7A, evT_8A, evT_9A, evT_10A, evT_11A, evT_12A, evTs_0A, evTs_1A, evI_0A, evI_1A, evI_2A, evI_3A, evI_4A, evG_0A, evG_1A, evG_2A, evS_0A, evS_1A, evS_2A, evS_3A, evS_4A, evS_5A, evS_6A, evS_7A, evS_8A, evS_9A, evS_10A, bindO_ok, bindO_exn, bindO_bad, Res.bind_ok, Res.bind_exn, Res.bind_bad, Res.bindN_ok, optR_some, K0.d, EC, setN, setNs, wipeR, List.map_cons, List.map_nil, List.set_cons_zero, List.set_cons_succ, List.getElem?_cons_zero, List.getElem?_cons_succ, List.cons_append, List.nil_append, List.length_cons, List.length_nil, Option.map_some, Option.map_none, Nat.reduceAdd, Nat.reduceSub, Nat.reduceLeDiff, if_true, if_false, Bool.false_eq_true, List.replicate, evB_nil, evB_cons, seqO_nx, seqO_rt, seqO_exn, endD_exn, cmp_eq_int, cmp_ne_int, cmp_eq_bl, cmp_ne_bl, Bool.not_true, Bool.not_false, List.filterMap_cons, List.filterMap_nil, truth_bl, truth_int, truth_non, truth_tup, truth_lst, cmp_lt, cmp_le, cmp_gt, cmp_ge, cmp_in, cmp_inL, cmp_notin, ix_tup, ix_lst, ix_kl, add_int_true, sub_int_true, add_tup_true, pow_int_true, mul_tup_true, add_lst_true, sl_tup_true, sl_lst_true, sl_kl_true, len_tup_true, tuple_tup_true, list_tup_true, len_lst_true, tuple_lst_true, list_lst_true, len_kl_true, tuple_kl_true, list_kl_true, tuple_ref_true, int_int_true, int_bl_true, abs_int_true, all_lst_true, any_lst_true, sum_lst_true, max_lst_true, add_int_false, sub_int_false, add_tup_false, pow_int_false, mul_tup_false, add_lst_false, sl_tup_false, sl_lst_false, sl_kl_false, len_tup_false, tuple_tup_false, list_tup_false, len_lst_false, tuple_lst_false, list_lst_false, len_kl_false, tuple_kl_false, list_kl_false, tuple_ref_false, int_int_false, int_bl_false, abs_int_false, all_lst_false, any_lst_false, sum_lst_false, max_lst_false, newL_f, newL_t, sv_tup, sv_lst, sv_kl, se_tup, se_lst, se_kl, sz_tup, sz_lst, all_const, beq_self_eq_true, eq_self, decide_true, iD_len, in_iD, in_iDL, filter_tt, map_idd, atI_zero, blsOf_map, intsOf_map, all_map_id, cut_tail, is_int_n, isnot_int_n, is_bl_n, isnot_bl_n, is_str_n, isnot_str_n, is_tup_n, isnot_tup_n, is_lst_n, isnot_lst_n, is_kl_n, isnot_kl_n, is_non_n, isnot_non_n, is_bl_bl, seq_ref0, lst_ref0, own_ref0, truth_ref0, ix_ref0, app_ref0, tuple_ref0, len_ref0, set_ref0, isSome_some, atI_last, ix3_0, ix3_1, ix3_2, at3_1, at3_2, isi_non_int, isi_non_bl, isi_non_str, isi_non_tup, isi_non_lst, isi_non_lst_tup, isi_non_bl_str, isi_bl_int, isi_bl_bl, isi_bl_str, isi_bl_tup, isi_bl_lst, isi_bl_lst_tup, isi_bl_bl_str, isi_int_int, isi_int_bl, isi_int_str, isi_int_tup, isi_int_lst, isi_int_lst_tup, isi_int_bl_str, isi_str_int, isi_str_bl, isi_str_str, isi_str_tup, isi_str_lst, isi_str_lst_tup, isi_str_bl_str, isi_tup_int, isi_tup_bl, isi_tup_str, isi_tup_tup, isi_tup_lst, isi_tup_lst_tup, isi_tup_bl_str, isi_lst_int, isi_lst_bl, isi_lst_str, isi_lst_tup, isi_lst_lst, isi_lst_lst_tup, isi_lst_bl_str, isi_kl_int, isi_kl_bl, isi_kl_str, isi_kl_tup, isi_kl_lst, isi_kl_lst_tup, isi_kl_bl_str, endD_rt, endD_nx, seq_tupD, seq_lstD, mm_int]
theorem iD_flat (ks : List Int) : (iD ks).all flat = true := by
  unfold iD
  rw [List.all_map]
  exact List.all_eq_true.mpr fun _ _ => rfl
theorem iD_isI (ks : List Int) : (iD ks).all isI = true := by
  unfold iD
  rw [List.all_map]
  exact List.all_eq_true.mpr fun _ _ => rfl
/-! ### tupled -/
theorem e_tupled1 {n : Nat} {x : D} {S : Store} (h : flat x = true) : E (n + 1) 4 [x] S = .ok x S := by
  cases x <;> first | rfl | cases h
theorem e_tupledT {n : Nat} {xs : List D} {S : Store} (h : xs.all flat = true) (hl : xs.length < 1000) : E (n + 2) 4 [.tup xs] S = .ok (.tup xs) S := by
  have hf : ∀ x ∈ xs, flat x = true := fun x hx => List.all_eq_true.mp h x hx
  refine callP (fd := d4.fd) rfl rfl rfl (by simp only [D.pures, D.pure, Bool.and_true]; exact flats_pures h) (S1 := []) ?_ (by simp only [D.pure]; exact flats_pures h)
  show runB (C (n + 1)) ⟨1, 2, true, b4⟩ _ _ = _
  simp only [b4, runB, ev_0A, ev_1A, ev_2A, ev_3A, ev_4A, ev_5A, ev_6A, ev_7A, ev_8A, ev_9A, ev_10A, ev_11A, ev_12A, ev_13A, ev_14A, ev_15A, ev_16A, ev_17A, ev_18A, ev_19A, ev_20A, ev_21A, evs_0A, evs_1A, evO_0A, evO_1A, evT_0A, evT_1A, evT_2A, evT_3A, evT_4A, evT_5A, evT_6A, evT_7A, evT_8A, evT_9A, evT_10A, evT_11A, evT_12A, evTs_0A, evTs_1A, evI_0A, evI_1A, evI_2A, evI_3A, evI_4A, evG_0A, evG_1A, evG_2A, evS_0A, evS_1A, evS_2A, evS_3A, evS_4A, evS_5A, evS_6A, evS_7A, evS_8A, evS_9A, evS_10A, bindO_ok, bindO_exn, bindO_bad, Res.bind_ok, Res.bind_exn, Res.bind_bad, Res.bindN_ok, optR_some, K0.d, EC, setN, setNs, wipeR, List.map_cons, List.map_nil, List.set_cons_zero, List.set_cons_succ, List.getElem?_cons_zero, List.getElem?_cons_succ, List.cons_append, List.nil_append, List.length_cons, List.length_nil, Option.map_some, Option.map_none, Nat.reduceAdd, Nat.reduceSub, Nat.reduceLeDiff, if_true, if_false, Bool.false_eq_true, List.replicate, evB_nil, evB_cons, seqO_nx, seqO_rt, seqO_exn, endD_exn, cmp_eq_int, cmp_ne_int, cmp_eq_bl, cmp_ne_bl, Bool.not_true, Bool.not_false, List.filterMap_cons, List.filterMap_nil, truth_bl, truth_int, truth_non, truth_tup, truth_lst, cmp_lt, cmp_le, cmp_gt, cmp_ge, cmp_in, cmp_inL, cmp_notin, ix_tup, ix_lst, ix_kl, add_int_true, sub_int_true, add_tup_true, pow_int_true, mul_tup_true, add_lst_true, sl_tup_true, sl_lst_true, sl_kl_true, len_tup_true, tuple_tup_true, list_tup_true, len_lst_true, tuple_lst_true, list_lst_true, len_kl_true, tuple_kl_true, list_kl_true, tuple_ref_true, int_int_true, int_bl_true, abs_int_true, all_lst_true, any_lst_true, sum_lst_true, max_lst_true, add_int_false, sub_int_false, add_tup_false, pow_int_false, mul_tup_false, add_lst_false, sl_tup_false, sl_lst_false, sl_kl_false, len_tup_false, tuple_tup_false, list_tup_false, len_lst_false, tuple_lst_false, list_lst_false, len_kl_false, tuple_kl_false, list_kl_false, tuple_ref_false, int_int_false, int_bl_false, abs_int_false, all_lst_false, any_lst_false, sum_lst_false, max_lst_false, newL_f, newL_t, sv_tup, sv_lst, sv_kl, se_tup, se_lst, se_kl, sz_tup, sz_lst, all_const, beq_self_eq_true, eq_self, decide_true, iD_len, in_iD, in_iDL, filter_tt, map_idd, atI_zero, blsOf_map, intsOf_map, all_map_id, cut_tail, is_int_n, isnot_int_n, is_bl_n, isnot_bl_n, is_str_n, isnot_str_n, is_tup_n, isnot_tup_n, is_lst_n, isnot_lst_n, is_kl_n, isnot_kl_n, is_non_n, isnot_non_n, is_bl_bl, seq_ref0, lst_ref0, own_ref0, truth_ref0, ix_ref0, app_ref0, tuple_ref0, len_ref0, set_ref0, isSome_some, atI_last, ix3_0, ix3_1, ix3_2, at3_1, at3_2, isi_non_int, isi_non_bl, isi_non_str, isi_non_tup, isi_non_lst, isi_non_lst_tup, isi_non_bl_str, isi_bl_int, isi_bl_bl, isi_bl_str, isi_bl_tup, isi_bl_lst, isi_bl_lst_tup, isi_bl_bl_str, isi_int_int, isi_int_bl, isi_int_str, isi_int_tup, isi_int_lst, isi_int_lst_tup, isi_int_bl_str, isi_str_int, isi_str_bl, isi_str_str, isi_str_tup, isi_str_lst, isi_str_lst_tup, isi_str_bl_str, isi_tup_int, isi_tup_bl, isi_tup_str, isi_tup_tup, isi_tup_lst, isi_tup_lst_tup, isi_tup_bl_str, isi_lst_int, isi_lst_bl, isi_lst_str, isi_lst_tup, isi_lst_lst, isi_lst_lst_tup, isi_lst_bl_str, isi_kl_int, isi_kl_bl, isi_kl_str, isi_kl_tup, isi_kl_lst, isi_kl_lst_tup, isi_kl_bl_str, endD_rt, endD_nx, seq_tupD, seq_lstD, mm_int]
  rw [lc_pure xs (fun _ => true) (fun x => x) (fun x => [some (.tup xs), some x]) (fun i => rfl) (fun x hx => ⟨rfl, rfl, fun _ => by
    have q : callN (tblOf tbl) (cnOf cis) 1000 (n + 1) 4 [x] [] = .ok x [] := e_tupled1 (hf x hx)
    simp only [runB, ev_0A, ev_1A, ev_2A, ev_3A, ev_4A, ev_5A, ev_6A, ev_7A, ev_8A, ev_9A, ev_10A, ev_11A, ev_12A, ev_13A, ev_14A, ev_15A, ev_16A, ev_17A, ev_18A, ev_19A, ev_20A, ev_21A, evs_0A, evs_1A, evO_0A, evO_1A, evT_0A, evT_1A, evT_2A, evT_3A, evT_4A, evT_5A, evT_6A, evT_7A, evT_8A, evT_9A, evT_10A, evT_11A, evT_12A, evTs_0A, evTs_1A, evI_0A, evI_1A, evI_2A, evI_3A, evI_4A, evG_0A, evG_1A, evG_2A, evS_0A, evS_1A, evS_2A, evS_3A, evS_4A, evS_5A, evS_6A, evS_7A, evS_8A, evS_9A, evS_10A, bindO_ok, bindO_exn, bindO_bad, Res.bind_ok, Res.bind_exn, Res.bind_bad, Res.bindN_ok, optR_some, K0.d, EC, setN, setNs, wipeR, List.map_cons, List.map_nil, List.set_cons_zero, List.set_cons_succ, List.getElem?_cons_zero, List.getElem?_cons_succ, List.cons_append, List.nil_append, List.length_cons, List.length_nil, Option.map_some, Option.map_none, Nat.reduceAdd, Nat.reduceSub, Nat.reduceLeDiff, if_true, if_false, Bool.false_eq_true, List.replicate, evB_nil, evB_cons, seqO_nx, seqO_rt, seqO_exn, endD_exn, cmp_eq_int, cmp_ne_int, cmp_eq_bl, cmp_ne_bl, Bool.not_true, Bool.not_false, List.filterMap_cons, List.filterMap_nil, truth_bl, truth_int, truth_non, truth_tup, truth_lst, cmp_lt, cmp_le, cmp_gt, cmp_ge, cmp_in, cmp_inL, cmp_notin, ix_tup, ix_lst, ix_kl, add_int_true, sub_int_true, add_tup_true, pow_int_true, mul_tup_true, add_lst_true, sl_tup_true, sl_lst_true, sl_kl_true, len_tup_true, tuple_tup_true, list_tup_true, len_lst_true, tuple_lst_true, list_lst_true, len_kl_true, tuple_kl_true, list_kl_true, tuple_ref_true, int_int_true, int_bl_true, abs_int_true, all_lst_true, any_lst_true, sum_lst_true, max_lst_true, add_int_false, sub_int_false, add_tup_false, pow_int_false, mul_tup_false, add_lst_false, sl_tup_false, sl_lst_false, sl_kl_false, len_tup_false, tuple_tup_false, list_tup_false, len_lst_false, tuple_lst_false, list_lst_false, len_kl_false, tuple_kl_false, list_kl_false, tuple_ref_false, int_int_false, int_bl_false, abs_int_false, all_lst_false, any_lst_false, sum_lst_false, max_lst_false, newL_f, newL_t, sv_tup, sv_lst, sv_kl, se_tup, se_lst, se_kl, sz_tup, sz_lst, all_const, beq_self_eq_true, eq_self, decide_true, iD_len, in_iD, in_iDL, filter_tt, map_idd, atI_zero, blsOf_map, intsOf_map, all_map_id, cut_tail, is_int_n, isnot_int_n, is_bl_n, isnot_bl_n, is_str_n, isnot_str_n, is_tup_n, isnot_tup_n, is_lst_n, isnot_lst_n, is_kl_n, isnot_kl_n, is_non_n, isnot_non_n, is_bl_bl, seq_ref0, lst_ref0, own_ref0, truth_ref0, ix_ref0, app_ref0, tuple_ref0, len_ref0, set_ref0, isSome_some, atI_last, ix3_0, ix3_1, ix3_2, at3_1, at3_2, isi_non_int, isi_non_bl, isi_non_str, isi_non_tup, isi_non_lst, isi_non_lst_tup, isi_non_bl_str, isi_bl_int, isi_bl_bl, isi_bl_str, isi_bl_tup, isi_bl_lst, isi_bl_lst_tup, isi_bl_bl_str, isi_int_int, isi_int_bl, isi_int_str, isi_int_tup, isi_int_lst, isi_int_lst_tup, isi_int_bl_str, isi_str_int, isi_str_bl, isi_str_str, isi_str_tup, isi_str_lst, isi_str_lst_tup, isi_str_bl_str, isi_tup_int, isi_tup_bl, isi_tup_str, isi_tup_tup, isi_tup_lst, isi_tup_lst_tup, isi_tup_bl_str, isi_lst_int, isi_lst_bl, isi_lst_str, isi_lst_tup, isi_lst_lst, isi_lst_lst_tup, isi_lst_bl_str, isi_kl_int, isi_kl_bl, isi_kl_str, isi_kl_tup, isi_kl_lst, isi_kl_lst_tup, isi_kl_bl_str, endD_rt, endD_nx, seq_tupD, seq_lstD, mm_int, q]⟩) hl]
  simp only [runB, ev_0A, ev_1A, ev_2A, ev_3A, ev_4A, ev_5A, ev_6A, ev_7A, ev_8A, ev_9A, ev_10A, ev_11A, ev_12A, ev_13A, ev_14A, ev_15A, ev_16A, ev_17A, ev_18A, ev_19A, ev_20A, ev_21A, evs_0A, evs_1A, evO_0A, evO_1A, evT_0A, evT_1A, evT_2A, evT_3A, evT_4A, evT_5A, evT_6A, evT_7A, evT_8A, evT_9A, evT_10A, evT_11A, evT_12A, evTs_0A, evTs_1A, evI_0A, evI_1A, evI_2A, evI_3A, evI_4A, evG_0A, evG_1A, evG_2A, evS_0A, evS_1A, evS_2A, evS_3A, evS_4A, evS_5A, evS_6A, evS_7A, evS_8A, evS_9A, evS_10A, bindO_ok, bindO_exn, bindO_bad, Res.bind_ok, Res.bind_exn, Res.bind_bad, Res.bindN_ok, optR_some, K0.d, EC, setN, setNs, wipeR, List.map_cons, List.map_nil, List.set_cons_zero, List.set_cons_succ, List.getElem?_cons_zero, List.getElem?_cons_succ, List.cons_append, List.nil_append, List.length_cons, List.length_nil, Option.map_some, Option.map_none, Nat.reduceAdd, Nat.reduceSub, Nat.reduceLeDiff, if_true, if_false, Bool.false_eq_true, List.replicate, evB_nil, evB_cons, seqO_nx, seqO_rt, seqO_exn, endD_exn, cmp_eq_int, cmp_ne_int, cmp_eq_bl, cmp_ne_bl, Bool.not_true, Bool.not_false, List.filterMap_cons, List.filterMap_nil, truth_bl, truth_int, truth_non, truth_tup, truth_lst, cmp_lt, cmp_le, cmp_gt, cmp_ge, cmp_in, cmp_inL, cmp_notin, ix_tup, ix_lst, ix_kl, add_int_true, sub_int_true, add_tup_true, pow_int_true, mul_tup_true, add_lst_true, sl_tup_true, sl_lst_true, sl_kl_true, len_tup_true, tuple_tup_true, list_tup_true, len_lst_true, tuple_lst_true, list_lst_true, len_kl_true, tuple_kl_true, list_kl_true, tuple_ref_true, int_int_true, int_bl_true, abs_int_true, all_lst_true, any_lst_true, sum_lst_true, max_lst_true, add_int_false, sub_int_false, add_tup_false, pow_int_false, mul_tup_false, add_lst_false, sl_tup_false, sl_lst_false, sl_kl_false, len_tup_false, tuple_tup_false, list_tup_false, len_lst_false, tuple_lst_false, list_lst_false, len_kl_false, tuple_kl_false, list_kl_false, tuple_ref_false, int_int_false, int_bl_false, abs_int_false, all_lst_false, any_lst_false, sum_lst_false, max_lst_false, newL_f, newL_t, sv_tup, sv_lst, sv_kl, se_tup, se_lst, se_kl, sz_tup, sz_lst, all_const, beq_self_eq_true, eq_self, decide_true, iD_len, in_iD, in_iDL, filter_tt, map_idd, atI_zero, blsOf_map, intsOf_map, all_map_id, cut_tail, is_int_n, isnot_int_n, is_bl_n, isnot_bl_n, is_str_n, isnot_str_n, is_tup_n, isnot_tup_n, is_lst_n, isnot_lst_n, is_kl_n, isnot_kl_n, is_non_n, isnot_non_n, is_bl_bl, seq_ref0, lst_ref0, own_ref0, truth_ref0, ix_ref0, app_ref0, tuple_ref0, len_ref0, set_ref0, isSome_some, atI_last, ix3_0, ix3_1, ix3_2, at3_1, at3_2, isi_non_int, isi_non_bl, isi_non_str, isi_non_tup, isi_non_lst, isi_non_lst_tup, isi_non_bl_str, isi_bl_int, isi_bl_bl, isi_bl_str, isi_bl_tup, isi_bl_lst, isi_bl_lst_tup, isi_bl_bl_str, isi_int_int, isi_int_bl, isi_int_str, isi_int_tup, isi_int_lst, isi_int_lst_tup, isi_int_bl_str, isi_str_int, isi_str_bl, isi_str_str, isi_str_tup, isi_str_lst, isi_str_lst_tup, isi_str_bl_str, isi_tup_int, isi_tup_bl, isi_tup_str, isi_tup_tup, isi_tup_lst, isi_tup_lst_tup, isi_tup_bl_str, isi_lst_int, isi_lst_bl, isi_lst_str, isi_lst_tup, isi_lst_lst, isi_lst_lst_tup, isi_lst_bl_str, isi_kl_int, isi_kl_bl, isi_kl_str, isi_kl_tup, isi_kl_lst, isi_kl_lst_tup, isi_kl_bl_str, endD_rt, endD_nx, seq_tupD, seq_lstD, mm_int]
theorem e_tupledL {n : Nat} {xs : List D} {S : Store} (h : xs.all flat = true) (hl : xs.length < 1000) : E (n + 2) 4 [.lst xs] S = .ok (.tup xs) S := by
  have hf : ∀ x ∈ xs, flat x = true := fun x hx => List.all_eq_true.mp h x hx
  refine callP (fd := d4.fd) rfl rfl rfl (by simp only [D.pures, D.pure, Bool.and_true]; exact flats_pures h) (S1 := []) ?_ (by simp only [D.pure]; exact flats_pures h)
  show runB (C (n + 1)) ⟨1, 2, true, b4⟩ _ _ = _
  simp only [b4, runB, ev_0A, ev_1A, ev_2A, ev_3A, ev_4A, ev_5A, ev_6A, ev_7A, ev_8A, ev_9A, ev_10A, ev_11A, ev_12A, ev_13A, ev_14A, ev_15A, ev_16A, ev_17A, ev_18A, ev_19A, ev_20A, ev_21A, evs_0A, evs_1A, evO_0A, evO_1A, evT_0A, evT_1A, evT_2A, evT_3A, evT_4A, evT_5A, evT_6A, evT_7A, evT_8A, evT_9A, evT_10A, evT_11A, evT_12A, evTs_0A, evTs_1A, evI_0A, evI_1A, evI_2A, evI_3A, evI_4A, evG_0A, evG_1A, evG_2A, evS_0A, evS_1A, evS_2A, evS_3A, evS_4A, evS_5A, evS_6A, evS_7A, evS_8A, evS_9A, evS_10A, bindO_ok, bindO_exn, bindO_bad, Res.bind_ok, Res.bind_exn, Res.bind_bad, Res.bindN_ok, optR_some, K0.d, EC, setN, setNs, wipeR, List.map_cons, List.map_nil, List.set_cons_zero, List.set_cons_succ, List.getElem?_cons_zero, List.getElem?_cons_succ, List.cons_append, List.nil_append, List.length_cons, List.length_nil, Option.map_some, Option.map_none, Nat.reduceAdd, Nat.reduceSub, Nat.reduceLeDiff, if_true, if_false, Bool.false_eq_true, List.replicate, evB_nil, evB_cons, seqO_nx, seqO_rt, seqO_exn, endD_exn, cmp_eq_int, cmp_ne_int, cmp_eq_bl, cmp_ne_bl, Bool.not_true, Bool.not_false, List.filterMap_cons, List.filterMap_nil, truth_bl, truth_int, truth_non, truth_tup, truth_lst, cmp_lt, cmp_le, cmp_gt, cmp_ge, cmp_in, cmp_inL, cmp_notin, ix_tup, ix_lst, ix_kl, add_int_true, sub_int_true, add_tup_true, pow_int_true, mul_tup_true, add_lst_true, sl_tup_true, sl_lst_true, sl_kl_true, len_tup_true, tuple_tup_true, list_tup_true, len_lst_true, tuple_lst_true, list_lst_true, len_kl_true, tuple_kl_true, list_kl_true, tuple_ref_true, int_int_true, int_bl_true, abs_int_true, all_lst_true, any_lst_true, sum_lst_true, max_lst_true, add_int_false, sub_int_false, add_tup_false, pow_int_false, mul_tup_false, add_lst_false, sl_tup_false, sl_lst_false, sl_kl_false, len_tup_false, tuple_tup_false, list_tup_false, len_lst_false, tuple_lst_false, list_lst_false, len_kl_false, tuple_kl_false, list_kl_false, tuple_ref_false, int_int_false, int_bl_false, abs_int_false, all_lst_false, any_lst_false, sum_lst_false, max_lst_false, newL_f, newL_t, sv_tup, sv_lst, sv_kl, se_tup, se_lst, se_kl, sz_tup, sz_lst, all_const, beq_self_eq_true, eq_self, decide_true, iD_len, in_iD, in_iDL, filter_tt, map_idd, atI_zero, blsOf_map, intsOf_map, all_map_id, cut_tail, is_int_n, isnot_int_n, is_bl_n, isnot_bl_n, is_str_n, isnot_str_n, is_tup_n, isnot_tup_n, is_lst_n, isnot_lst_n, is_kl_n, isnot_kl_n, is_non_n, isnot_non_n, is_bl_bl, seq_ref0, lst_ref0, own_ref0, truth_ref0, ix_ref0, app_ref0, tuple_ref0, len_ref0, set_ref0, isSome_some, atI_last, ix3_0, ix3_1, ix3_2, at3_1, at3_2, isi_non_int, isi_non_bl, isi_non_str, isi_non_tup, isi_non_lst, isi_non_lst_tup, isi_non_bl_str, isi_bl_int, isi_bl_bl, isi_bl_str, isi_bl_tup, isi_bl_lst, isi_bl_lst_tup, isi_bl_bl_str, isi_int_int, isi_int_bl, isi_int_str, isi_int_tup, isi_int_lst, isi_int_lst_tup, isi_int_bl_str, isi_str_int, isi_str_bl, isi_str_str, isi_str_tup, isi_str_lst, isi_str_lst_tup, isi_str_bl_str, isi_tup_int, isi_tup_bl, isi_tup_str, isi_tup_tup, isi_tup_lst, isi_tup_lst_tup, isi_tup_bl_str, isi_lst_int, isi_lst_bl, isi_lst_str, isi_lst_tup, isi_lst_lst, isi_lst_lst_tup, isi_lst_bl_str, isi_kl_int, isi_kl_bl, isi_kl_str, isi_kl_tup, isi_kl_lst, isi_kl_lst_tup, isi_kl_bl_str, endD_rt, endD_nx, seq_tupD, seq_lstD, mm_int]
  rw [lc_pure xs (fun _ => true) (fun x => x) (fun x => [some (.lst xs), some x]) (fun i => rfl) (fun x hx => ⟨rfl, rfl, fun _ => by
    have q : callN (tblOf tbl) (cnOf cis) 1000 (n + 1) 4 [x] [] = .ok x [] := e_tupled1 (hf x hx)
    simp only [runB, ev_0A, ev_1A, ev_2A, ev_3A, ev_4A, ev_5A, ev_6A, ev_7A, ev_8A, ev_9A, ev_10A, ev_11A, ev_12A, ev_13A, ev_14A, ev_15A, ev_16A, ev_17A, ev_18A, ev_19A, ev_20A, ev_21A, evs_0A, evs_1A, evO_0A, evO_1A, evT_0A, evT_1A, evT_2A, evT_3A, evT_4A, evT_5A, evT_6A, evT_7A, evT_8A, evT_9A, evT_10A, evT_11A, evT_12A, evTs_0A, evTs_1A, evI_0A, evI_1A, evI_2A, evI_3A, evI_4A, evG_0A, evG_1A, evG_2A, evS_0A, evS_1A, evS_2A, evS_3A, evS_4A, evS_5A, evS_6A, evS_7A, evS_8A, evS_9A, evS_10A, bindO_ok, bindO_exn, bindO_bad, Res.bind_ok, Res.bind_exn, Res.bind_bad, Res.bindN_ok, optR_some, K0.d, EC, setN, setNs, wipeR, List.map_cons, List.map_nil, List.set_cons_zero, List.set_cons_succ, List.getElem?_cons_zero, List.getElem?_cons_succ, List.cons_append, List.nil_append, List.length_cons, List.length_nil, Option.map_some, Option.map_none, Nat.reduceAdd, Nat.reduceSub, Nat.reduceLeDiff, if_true, if_false, Bool.false_eq_true, List.replicate, evB_nil, evB_cons, seqO_nx, seqO_rt, seqO_exn, endD_exn, cmp_eq_int, cmp_ne_int, cmp_eq_bl, cmp_ne_bl, Bool.not_true, Bool.not_false, List.filterMap_cons, List.filterMap_nil, truth_bl, truth_int, truth_non, truth_tup, truth_lst, cmp_lt, cmp_le, cmp_gt, cmp_ge, cmp_in, cmp_inL, cmp_notin, ix_tup, ix_lst, ix_kl, add_int_true, sub_int_true, add_tup_true, pow_int_true, mul_tup_true, add_lst_true, sl_tup_true, sl_lst_true, sl_kl_true, len_tup_true, tuple_tup_true, list_tup_true, len_lst_true, tuple_lst_true, list_lst_true, len_kl_true, tuple_kl_true, list_kl_true, tuple_ref_true, int_int_true, int_bl_true, abs_int_true, all_lst_true, any_lst_true, sum_lst_true, max_lst_true, add_int_false, sub_int_false, add_tup_false, pow_int_false, mul_tup_false, add_lst_false, sl_tup_false, sl_lst_false, sl_kl_false, len_tup_false, tuple_tup_false, list_tup_false, len_lst_false, tuple_lst_false, list_lst_false, len_kl_false, tuple_kl_false, list_kl_false, tuple_ref_false, int_int_false, int_bl_false, abs_int_false, all_lst_false, any_lst_false, sum_lst_false, max_lst_false, newL_f, newL_t, sv_tup, sv_lst, sv_kl, se_tup, se_lst, se_kl, sz_tup, sz_lst, all_const, beq_self_eq_true, eq_self, decide_true, iD_len, in_iD, in_iDL, filter_tt, map_idd, atI_zero, blsOf_map, intsOf_map, all_map_id, cut_tail, is_int_n, isnot_int_n, is_bl_n, isnot_bl_n, is_str_n, isnot_str_n, is_tup_n, isnot_tup_n, is_lst_n, isnot_lst_n, is_kl_n, isnot_kl_n, is_non_n, isnot_non_n, is_bl_bl, seq_ref0, lst_ref0, own_ref0, truth_ref0, ix_ref0, app_ref0, tuple_ref0, len_ref0, set_ref0, isSome_some, atI_last, ix3_0, ix3_1, ix3_2, at3_1, at3_2, isi_non_int, isi_non_bl, isi_non_str, isi_non_tup, isi_non_lst, isi_non_lst_tup, isi_non_bl_str, isi_bl_int, isi_bl_bl, isi_bl_str, isi_bl_tup, isi_bl_lst, isi_bl_lst_tup, isi_bl_bl_str, isi_int_int, isi_int_bl, isi_int_str, isi_int_tup, isi_int_lst, isi_int_lst_tup, isi_int_bl_str, isi_str_int, isi_str_bl, isi_str_str, isi_str_tup, isi_str_lst, isi_str_lst_tup, isi_str_bl_str, isi_tup_int, isi_tup_bl, isi_tup_str, isi_tup_tup, isi_tup_lst, isi_tup_lst_tup, isi_tup_bl_str, isi_lst_int, isi_lst_bl, isi_lst_str, isi_lst_tup, isi_lst_lst, isi_lst_lst_tup, isi_lst_bl_str, isi_kl_int, isi_kl_bl, isi_kl_str, isi_kl_tup, isi_kl_lst, isi_kl_lst_tup, isi_kl_bl_str, endD_rt, endD_nx, seq_tupD, seq_lstD, mm_int, q]⟩) hl]
  simp only [runB, ev_0A, ev_1A, ev_2A, ev_3A, ev_4A, ev_5A, ev_6A, ev_7A, ev_8A, ev_9A, ev_10A, ev_11A, ev_12A, ev_13A, ev_14A, ev_15A, ev_16A, ev_17A, ev_18A, ev_19A, ev_20A, ev_21A, evs_0A, evs_1A, evO_0A, evO_1A, evT_0A, evT_1A, evT_2A, evT_3A, evT_4A, evT_5A, evT_6A, evT_7A, evT_8A, evT_9A, evT_10A, evT_11A, evT_12A, evTs_0A, evTs_1A, evI_0A, evI_1A, evI_2A, evI_3A, evI_4A, evG_0A, evG_1A, evG_2A, evS_0A, evS_1A, evS_2A, evS_3A, evS_4A, evS_5A, evS_6A, evS_7A, evS_8A, evS_9A, evS_10A, bindO_ok, bindO_exn, bindO_bad, Res.bind_ok, Res.bind_exn, Res.bind_bad, Res.bindN_ok, optR_some, K0.d, EC, setN, setNs, wipeR, List.map_cons, List.map_nil, List.set_cons_zero, List.set_cons_succ, List.getElem?_cons_zero, List.getElem?_cons_succ, List.cons_append, List.nil_append, List.length_cons, List.length_nil, Option.map_some, Option.map_none, Nat.reduceAdd, Nat.reduceSub, Nat.reduceLeDiff, if_true, if_false, Bool.false_eq_true, List.replicate, evB_nil, evB_cons, seqO_nx, seqO_rt, seqO_exn, endD_exn, cmp_eq_int, cmp_ne_int, cmp_eq_bl, cmp_ne_bl, Bool.not_true, Bool.not_false, List.filterMap_cons, List.filterMap_nil, truth_bl, truth_int, truth_non, truth_tup, truth_lst, cmp_lt, cmp_le, cmp_gt, cmp_ge, cmp_in, cmp_inL, cmp_notin, ix_tup, ix_lst, ix_kl, add_int_true, sub_int_true, add_tup_true, pow_int_true, mul_tup_true, add_lst_true, sl_tup_true, sl_lst_true, sl_kl_true, len_tup_true, tuple_tup_true, list_tup_true, len_lst_true, tuple_lst_true, list_lst_true, len_kl_true, tuple_kl_true, list_kl_true, tuple_ref_true, int_int_true, int_bl_true, abs_int_true, all_lst_true, any_lst_true, sum_lst_true, max_lst_true, add_int_false, sub_int_false, add_tup_false, pow_int_false, mul_tup_false, add_lst_false, sl_tup_false, sl_lst_false, sl_kl_false, len_tup_false, tuple_tup_false, list_tup_false, len_lst_false, tuple_lst_false, list_lst_false, len_kl_false, tuple_kl_false, list_kl_false, tuple_ref_false, int_int_false, int_bl_false, abs_int_false, all_lst_false, any_lst_false, sum_lst_false, max_lst_false, newL_f, newL_t, sv_tup, sv_lst, sv_kl, se_tup, se_lst, se_kl, sz_tup, sz_lst, all_const, beq_self_eq_true, eq_self, decide_true, iD_len, in_iD, in_iDL, filter_tt, map_idd, atI_zero, blsOf_map, intsOf_map, all_map_id, cut_tail, is_int_n, isnot_int_n, is_bl_n, isnot_bl_n, is_str_n, isnot_str_n, is_tup_n, isnot_tup_n, is_lst_n, isnot_lst_n, is_kl_n, isnot_kl_n, is_non_n, isnot_non_n, is_bl_bl, seq_ref0, lst_ref0, own_ref0, truth_ref0, ix_ref0, app_ref0, tuple_ref0, len_ref0, set_ref0, isSome_some, atI_last, ix3_0, ix3_1, ix3_2, at3_1, at3_2, isi_non_int, isi_non_bl, isi_non_str, isi_non_tup, isi_non_lst, isi_non_lst_tup, isi_non_bl_str, isi_bl_int, isi_bl_bl, isi_bl_str, isi_bl_tup, isi_bl_lst, isi_bl_lst_tup, isi_bl_bl_str, isi_int_int, isi_int_bl, isi_int_str, isi_int_tup, isi_int_lst, isi_int_lst_tup, isi_int_bl_str, isi_str_int, isi_str_bl, isi_str_str, isi_str_tup, isi_str_lst, isi_str_lst_tup, isi_str_bl_str, isi_tup_int, isi_tup_bl, isi_tup_str, isi_tup_tup, isi_tup_lst, isi_tup_lst_tup, isi_tup_bl_str, isi_lst_int, isi_lst_bl, isi_lst_str, isi_lst_tup, isi_lst_lst, isi_lst_lst_tup, isi_lst_bl_str, isi_kl_int, isi_kl_bl, isi_kl_str, isi_kl_tup, isi_kl_lst, isi_kl_lst_tup, isi_kl_bl_str, endD_rt, endD_nx, seq_tupD, seq_lstD, mm_int]
/-! ### is_kinds -/
/-- the tail of kinds: each above an earlier one -/
def okTail : Nat → List Int → Bool
  | _, [] => true
  | i, k :: r => decide (0 ≤ k) && decide (k < (i : Int) + 1) && okTail (i + 1) r
def isK (ks : List Int) : Bool := match ks with
  | [] => false
  | k :: r => decide (r.length ≤ 7) && decide (k = -1) && okTail 0 r
theorem okTail_all : ∀ (r : List Int) (i : Nat), okTail i r = ((r.zipIdx i).all fun p => decide (0 ≤ p.1) && decide (p.1 < (p.2 : Int) + 1))
  | [], _ => rfl
  | k :: r, i => by
    simp only [okTail, List.zipIdx_cons, List.all_cons, okTail_all r (i + 1)]
theorem e_isK {n : Nat} {ks : List Int} {S : Store} (hl : ks.length < 1000) : E (n + 3) 7 [.tup (iD ks)] S = .ok (.bl (isK ks)) S := by
  refine callP (fd := d7.fd) rfl rfl rfl (by simp only [D.pures, D.pure, Bool.and_true]; exact iD_pures ks) (S1 := []) ?_ rfl
  show runB (C (n + 2)) ⟨1, 3, true, b7⟩ _ _ = _
  have q : callN (tblOf tbl) (cnOf cis) 1000 (n + 2) 2 [.tup (iD ks)] [] = .ok (.bl true) [] := by
    have := e_numbers (n := n) (S := []) (iD_flat ks) (by rw [iD_len]; exact hl)
    rw [iD_isI] at this
    exact this
  have qc : cnOf cis "MOST_KINDS" = some (.int 8) := by rfl
  simp only [b7, runB, ev_0A, ev_1A, ev_2A, ev_3A, ev_4A, ev_5A, ev_6A, ev_7A, ev_8A, ev_9A, ev_10A, ev_11A, ev_12A, ev_13A, ev_14A, ev_15A, ev_16A, ev_17A, ev_18A, ev_19A, ev_20A, ev_21A, evs_0A, evs_1A, evO_0A, evO_1A, evT_0A, evT_1A, evT_2A, evT_3A, evT_4A, evT_5A, evT_6A, evT_7A, evT_8A, evT_9A, evT_10A, evT_11A, evT_12A, evTs_0A, evTs_1A, evI_0A, evI_1A, evI_2A, evI_3A, evI_4A, evG_0A, evG_1A, evG_2A, evS_0A, evS_1A, evS_2A, evS_3A, evS_4A, evS_5A, evS_6A, evS_7A, evS_8A, evS_9A, evS_10A, bindO_ok, bindO_exn, bindO_bad, Res.bind_ok, Res.bind_exn, Res.bind_bad, Res.bindN_ok, optR_some, K0.d, EC, setN, setNs, wipeR, List.map_cons, List.map_nil, List.set_cons_zero, List.set_cons_succ, List.getElem?_cons_zero, List.getElem?_cons_succ, List.cons_append, List.nil_append, List.length_cons, List.length_nil, Option.map_some, Option.map_none, Nat.reduceAdd, Nat.reduceSub, Nat.reduceLeDiff, if_true, if_false, Bool.false_eq_true, List.replicate, evB_nil, evB_cons, seqO_nx, seqO_rt, seqO_exn, endD_exn, cmp_eq_int, cmp_ne_int, cmp_eq_bl, cmp_ne_bl, Bool.not_true, Bool.not_false, List.filterMap_cons, List.filterMap_nil, truth_bl, truth_int, truth_non, truth_tup, truth_lst, cmp_lt, cmp_le, cmp_gt, cmp_ge, cmp_in, cmp_inL, cmp_notin, ix_tup, ix_lst, ix_kl, add_int_true, sub_int_true, add_tup_true, pow_int_true, mul_tup_true, add_lst_true, sl_tup_true, sl_lst_true, sl_kl_true, len_tup_true, tuple_tup_true, list_tup_true, len_lst_true, tuple_lst_true, list_lst_true, len_kl_true, tuple_kl_true, list_kl_true, tuple_ref_true, int_int_true, int_bl_true, abs_int_true, all_lst_true, any_lst_true, sum_lst_true, max_lst_true, add_int_false, sub_int_false, add_tup_false, pow_int_false, mul_tup_false, add_lst_false, sl_tup_false, sl_lst_false, sl_kl_false, len_tup_false, tuple_tup_false, list_tup_false, len_lst_false, tuple_lst_false, list_lst_false, len_kl_false, tuple_kl_false, list_kl_false, tuple_ref_false, int_int_false, int_bl_false, abs_int_false, all_lst_false, any_lst_false, sum_lst_false, max_lst_false, newL_f, newL_t, sv_tup, sv_lst, sv_kl, se_tup, se_lst, se_kl, sz_tup, sz_lst, all_const, beq_self_eq_true, eq_self, decide_true, iD_len, in_iD, in_iDL, filter_tt, map_idd, atI_zero, blsOf_map, intsOf_map, all_map_id, cut_tail, is_int_n, isnot_int_n, is_bl_n, isnot_bl_n, is_str_n, isnot_str_n, is_tup_n, isnot_tup_n, is_lst_n, isnot_lst_n, is_kl_n, isnot_kl_n, is_non_n, isnot_non_n, is_bl_bl, seq_ref0, lst_ref0, own_ref0, truth_ref0, ix_ref0, app_ref0, tuple_ref0, len_ref0, set_ref0, isSome_some, atI_last, ix3_0, ix3_1, ix3_2, at3_1, at3_2, isi_non_int, isi_non_bl, isi_non_str, isi_non_tup, isi_non_lst, isi_non_lst_tup, isi_non_bl_str, isi_bl_int, isi_bl_bl, isi_bl_str, isi_bl_tup, isi_bl_lst, isi_bl_lst_tup, isi_bl_bl_str, isi_int_int, isi_int_bl, isi_int_str, isi_int_tup, isi_int_lst, isi_int_lst_tup, isi_int_bl_str, isi_str_int, isi_str_bl, isi_str_str, isi_str_tup, isi_str_lst, isi_str_lst_tup, isi_str_bl_str, isi_tup_int, isi_tup_bl, isi_tup_str, isi_tup_tup, isi_tup_lst, isi_tup_lst_tup, isi_tup_bl_str, isi_lst_int, isi_lst_bl, isi_lst_str, isi_lst_tup, isi_lst_lst, isi_lst_lst_tup, isi_lst_bl_str, isi_kl_int, isi_kl_bl, isi_kl_str, isi_kl_tup, isi_kl_lst, isi_kl_lst_tup, isi_kl_bl_str, endD_rt, endD_nx, seq_tupD, seq_lstD, mm_int, q, qc]
  cases ks with
  | nil => rfl
  | cons k r =>
    have a1 : (1 : Int) ≤ ((r.length + 1 : Nat) : Int) := by omega
    by_cases h7 : r.length ≤ 7
    · have a2 : (((r.length + 1 : Nat)) : Int) ≤ 8 := by omega
      simp only [iD_cons, runB, ev_0A, ev_1A, ev_2A, ev_3A, ev_4A, ev_5A, ev_6A, ev_7A, ev_8A, ev_9A, ev_10A, ev_11A, ev_12A, ev_13A, ev_14A, ev_15A, ev_16A, ev_17A, ev_18A, ev_19A, ev_20A, ev_21A, evs_0A, evs_1A, evO_0A, evO_1A, evT_0A, evT_1A, evT_2A, evT_3A, evT_4A, evT_5A, evT_6A, evT_7A, evT_8A, evT_9A, evT_10A, evT_11A, evT_12A, evTs_0A, evTs_1A, evI_0A, evI_1A, evI_2A, evI_3A, evI_4A, evG_0A, evG_1A, evG_2A, evS_0A, evS_1A, evS_2A, evS_3A, evS_4A, evS_5A, evS_6A, evS_7A, evS_8A, evS_9A, evS_10A, bindO_ok, bindO_exn, bindO_bad, Res.bind_ok, Res.bind_exn, Res.bind_bad, Res.bindN_ok, optR_some, K0.d, EC, setN, setNs, wipeR, List.map_cons, List.map_nil, List.set_cons_zero, List.set_cons_succ, List.getElem?_cons_zero, List.getElem?_cons_succ, List.cons_append, List.nil_append, List.length_cons, List.length_nil, Option.map_some, Option.map_none, Nat.reduceAdd, Nat.reduceSub, Nat.reduceLeDiff, if_true, if_false, Bool.false_eq_true, List.replicate, evB_nil, evB_cons, seqO_nx, seqO_rt, seqO_exn, endD_exn, cmp_eq_int, cmp_ne_int, cmp_eq_bl, cmp_ne_bl, Bool.not_true, Bool.not_false, List.filterMap_cons, List.filterMap_nil, truth_bl, truth_int, truth_non, truth_tup, truth_lst, cmp_lt, cmp_le, cmp_gt, cmp_ge, cmp_in, cmp_inL, cmp_notin, ix_tup, ix_lst, ix_kl, add_int_true, sub_int_true, add_tup_true, pow_int_true, mul_tup_true, add_lst_true, sl_tup_true, sl_lst_true, sl_kl_true, len_tup_true, tuple_tup_true, list_tup_true, len_lst_true, tuple_lst_true, list_lst_true, len_kl_true, tuple_kl_true, list_kl_true, tuple_ref_true, int_int_true, int_bl_true, abs_int_true, all_lst_true, any_lst_true, sum_lst_true, max_lst_true, add_int_false, sub_int_false, add_tup_false, pow_int_false, mul_tup_false, add_lst_false, sl_tup_false, sl_lst_false, sl_kl_false, len_tup_false, tuple_tup_false, list_tup_false, len_lst_false, tuple_lst_false, list_lst_false, len_kl_false, tuple_kl_false, list_kl_false, tuple_ref_false, int_int_false, int_bl_false, abs_int_false, all_lst_false, any_lst_false, sum_lst_false, max_lst_false, newL_f, newL_t, sv_tup, sv_lst, sv_kl, se_tup, se_lst, se_kl, sz_tup, sz_lst, all_const, beq_self_eq_true, eq_self, decide_true, iD_len, in_iD, in_iDL, filter_tt, map_idd, atI_zero, blsOf_map, intsOf_map, all_map_id, cut_tail, is_int_n, isnot_int_n, is_bl_n, isnot_bl_n, is_str_n, isnot_str_n, is_tup_n, isnot_tup_n, is_lst_n, isnot_lst_n, is_kl_n, isnot_kl_n, is_non_n, isnot_non_n, is_bl_bl, seq_ref0, lst_ref0, own_ref0, truth_ref0, ix_ref0, app_ref0, tuple_ref0, len_ref0, set_ref0, isSome_some, atI_last, ix3_0, ix3_1, ix3_2, at3_1, at3_2, isi_non_int, isi_non_bl, isi_non_str, isi_non_tup, isi_non_lst, isi_non_lst_tup, isi_non_bl_str, isi_bl_int, isi_bl_bl, isi_bl_str, isi_bl_tup, isi_bl_lst, isi_bl_lst_tup, isi_bl_bl_str, isi_int_int, isi_int_bl, isi_int_str, isi_int_tup, isi_int_lst, isi_int_lst_tup, isi_int_bl_str, isi_str_int, isi_str_bl, isi_str_str, isi_str_tup, isi_str_lst, isi_str_lst_tup, isi_str_bl_str, isi_tup_int, isi_tup_bl, isi_tup_str, isi_tup_tup, isi_tup_lst, isi_tup_lst_tup, isi_tup_bl_str, isi_lst_int, isi_lst_bl, isi_lst_str, isi_lst_tup, isi_lst_lst, isi_lst_lst_tup, isi_lst_bl_str, isi_kl_int, isi_kl_bl, isi_kl_str, isi_kl_tup, isi_kl_lst, isi_kl_lst_tup, isi_kl_bl_str, endD_rt, endD_nx, seq_tupD, seq_lstD, mm_int, a1, a2, decide_true]
      by_cases hk : k = -1
      · subst hk
        simp only [runB, ev_0A, ev_1A, ev_2A, ev_3A, ev_4A, ev_5A, ev_6A, ev_7A, ev_8A, ev_9A, ev_10A, ev_11A, ev_12A, ev_13A, ev_14A, ev_15A, ev_16A, ev_17A, ev_18A, ev_19A, ev_20A, ev_21A, evs_0A, evs_1A, evO_0A, evO_1A, evT_0A, evT_1A, evT_2A, evT_3A, evT_4A, evT_5A, evT_6A, evT_7A, evT_8A, evT_9A, evT_10A, evT_11A, evT_12A, evTs_0A, evTs_1A, evI_0A, evI_1A, evI_2A, evI_3A, evI_4A, evG_0A, evG_1A, evG_2A, evS_0A, evS_1A, evS_2A, evS_3A, evS_4A, evS_5A, evS_6A, evS_7A, evS_8A, evS_9A, evS_10A, bindO_ok, bindO_exn, bindO_bad, Res.bind_ok, Res.bind_exn, Res.bind_bad, Res.bindN_ok, optR_some, K0.d, EC, setN, setNs, wipeR, List.map_cons, List.map_nil, List.set_cons_zero, List.set_cons_succ, List.getElem?_cons_zero, List.getElem?_cons_succ, List.cons_append, List.nil_append, List.length_cons, List.length_nil, Option.map_some, Option.map_none, Nat.reduceAdd, Nat.reduceSub, Nat.reduceLeDiff, if_true, if_false, Bool.false_eq_true, List.replicate, evB_nil, evB_cons, seqO_nx, seqO_rt, seqO_exn, endD_exn, cmp_eq_int, cmp_ne_int, cmp_eq_bl, cmp_ne_bl, Bool.not_true, Bool.not_false, List.filterMap_cons, List.filterMap_nil, truth_bl, truth_int, truth_non, truth_tup, truth_lst, cmp_lt, cmp_le, cmp_gt, cmp_ge, cmp_in, cmp_inL, cmp_notin, ix_tup, ix_lst, ix_kl, add_int_true, sub_int_true, add_tup_true, pow_int_true, mul_tup_true, add_lst_true, sl_tup_true, sl_lst_true, sl_kl_true, len_tup_true, tuple_tup_true, list_tup_true, len_lst_true, tuple_lst_true, list_lst_true, len_kl_true, tuple_kl_true, list_kl_true, tuple_ref_true, int_int_true, int_bl_true, abs_int_true, all_lst_true, any_lst_true, sum_lst_true, max_lst_true, add_int_false, sub_int_false, add_tup_false, pow_int_false, mul_tup_false, add_lst_false, sl_tup_false, sl_lst_false, sl_kl_false, len_tup_false, tuple_tup_false, list_tup_false, len_lst_false, tuple_lst_false, list_lst_false, len_kl_false, tuple_kl_false, list_kl_false, tuple_ref_false, int_int_false, int_bl_false, abs_int_false, all_lst_false, any_lst_false, sum_lst_false, max_lst_false, newL_f, newL_t, sv_tup, sv_lst, sv_kl, se_tup, se_lst, se_kl, sz_tup, sz_lst, all_const, beq_self_eq_true, eq_self, decide_true, iD_len, in_iD, in_iDL, filter_tt, map_idd, atI_zero, blsOf_map, intsOf_map, all_map_id, cut_tail, is_int_n, isnot_int_n, is_bl_n, isnot_bl_n, is_str_n, isnot_str_n, is_tup_n, isnot_tup_n, is_lst_n, isnot_lst_n, is_kl_n, isnot_kl_n, is_non_n, isnot_non_n, is_bl_bl, seq_ref0, lst_ref0, own_ref0, truth_ref0, ix_ref0, app_ref0, tuple_ref0, len_ref0, set_ref0, isSome_some, atI_last, ix3_0, ix3_1, ix3_2, at3_1, at3_2, isi_non_int, isi_non_bl, isi_non_str, isi_non_tup, isi_non_lst, isi_non_lst_tup, isi_non_bl_str, isi_bl_int, isi_bl_bl, isi_bl_str, isi_bl_tup, isi_bl_lst, isi_bl_lst_tup, isi_bl_bl_str, isi_int_int, isi_int_bl, isi_int_str, isi_int_tup, isi_int_lst, isi_int_lst_tup, isi_int_bl_str, isi_str_int, isi_str_bl, isi_str_str, isi_str_tup, isi_str_lst, isi_str_lst_tup, isi_str_bl_str, isi_tup_int, isi_tup_bl, isi_tup_str, isi_tup_tup, isi_tup_lst, isi_tup_lst_tup, isi_tup_bl_str, isi_lst_int, isi_lst_bl, isi_lst_str, isi_lst_tup, isi_lst_lst, isi_lst_lst_tup, isi_lst_bl_str, isi_kl_int, isi_kl_bl, isi_kl_str, isi_kl_tup, isi_kl_lst, isi_kl_lst_tup, isi_kl_bl_str, endD_rt, endD_nx, seq_tupD, seq_lstD, mm_int, decide_true, Int.reduceNeg]
        rw [lc_pureA r.zipIdx (fun p => .tup [.int p.2, .int p.1]) (fun _ => true) (fun p => .bl (decide (0 ≤ p.1) && decide (p.1 < (p.2 : Int) + 1))) (fun p => [some (.tup (.int (-1) :: iD r)), some (.int p.2), some (.int p.1)]) (fun i => at_enum i) (fun p hp => ⟨rfl, rfl, fun _ => by
          simp only [runB, ev_0A, ev_1A, ev_2A, ev_3A, ev_4A, ev_5A, ev_6A, ev_7A, ev_8A, ev_9A, ev_10A, ev_11A, ev_12A, ev_13A, ev_14A, ev_15A, ev_16A, ev_17A, ev_18A, ev_19A, ev_20A, ev_21A, evs_0A, evs_1A, evO_0A, evO_1A, evT_0A, evT_1A, evT_2A, evT_3A, evT_4A, evT_5A, evT_6A, evT_7A, evT_8A, evT_9A, evT_10A, evT_11A, evT_12A, evTs_0A, evTs_1A, evI_0A, evI_1A, evI_2A, evI_3A, evI_4A, evG_0A, evG_1A, evG_2A, evS_0A, evS_1A, evS_2A, evS_3A, evS_4A, evS_5A, evS_6A, evS_7A, evS_8A, evS_9A, evS_10A, bindO_ok, bindO_exn, bindO_bad, Res.bind_ok, Res.bind_exn, Res.bind_bad, Res.bindN_ok, optR_some, K0.d, EC, setN, setNs, wipeR, List.map_cons, List.map_nil, List.set_cons_zero, List.set_cons_succ, List.getElem?_cons_zero, List.getElem?_cons_succ, List.cons_append, List.nil_append, List.length_cons, List.length_nil, Option.map_some, Option.map_none, Nat.reduceAdd, Nat.reduceSub, Nat.reduceLeDiff, if_true, if_false, Bool.false_eq_true, List.replicate, evB_nil, evB_cons, seqO_nx, seqO_rt, seqO_exn, endD_exn, cmp_eq_int, cmp_ne_int, cmp_eq_bl, cmp_ne_bl, Bool.not_true, Bool.not_false, List.filterMap_cons, List.filterMap_nil, truth_bl, truth_int, truth_non, truth_tup, truth_lst, cmp_lt, cmp_le, cmp_gt, cmp_ge, cmp_in, cmp_inL, cmp_notin, ix_tup, ix_lst, ix_kl, add_int_true, sub_int_true, add_tup_true, pow_int_true, mul_tup_true, add_lst_true, sl_tup_true, sl_lst_true, sl_kl_true, len_tup_true, tuple_tup_true, list_tup_true, len_lst_true, tuple_lst_true, list_lst_true, len_kl_true, tuple_kl_true, list_kl_true, tuple_ref_true, int_int_true, int_bl_true, abs_int_true, all_lst_true, any_lst_true, sum_lst_true, max_lst_true, add_int_false, sub_int_false, add_tup_false, pow_int_false, mul_tup_false, add_lst_false, sl_tup_false, sl_lst_false, sl_kl_false, len_tup_false, tuple_tup_false, list_tup_false, len_lst_false, tuple_lst_false, list_lst_false, len_kl_false, tuple_kl_false, list_kl_false, tuple_ref_false, int_int_false, int_bl_false, abs_int_false, all_lst_false, any_lst_false, sum_lst_false, max_lst_false, newL_f, newL_t, sv_tup, sv_lst, sv_kl, se_tup, se_lst, se_kl, sz_tup, sz_lst, all_const, beq_self_eq_true, eq_self, decide_true, iD_len, in_iD, in_iDL, filter_tt, map_idd, atI_zero, blsOf_map, intsOf_map, all_map_id, cut_tail, is_int_n, isnot_int_n, is_bl_n, isnot_bl_n, is_str_n, isnot_str_n, is_tup_n, isnot_tup_n, is_lst_n, isnot_lst_n, is_kl_n, isnot_kl_n, is_non_n, isnot_non_n, is_bl_bl, seq_ref0, lst_ref0, own_ref0, truth_ref0, ix_ref0, app_ref0, tuple_ref0, len_ref0, set_ref0, isSome_some, atI_last, ix3_0, ix3_1, ix3_2, at3_1, at3_2, isi_non_int, isi_non_bl, isi_non_str, isi_non_tup, isi_non_lst, isi_non_lst_tup, isi_non_bl_str, isi_bl_int, isi_bl_bl, isi_bl_str, isi_bl_tup, isi_bl_lst, isi_bl_lst_tup, isi_bl_bl_str, isi_int_int, isi_int_bl, isi_int_str, isi_int_tup, isi_int_lst, isi_int_lst_tup, isi_int_bl_str, isi_str_int, isi_str_bl, isi_str_str, isi_str_tup, isi_str_lst, isi_str_lst_tup, isi_str_bl_str, isi_tup_int, isi_tup_bl, isi_tup_str, isi_tup_tup, isi_tup_lst, isi_tup_lst_tup, isi_tup_bl_str, isi_lst_int, isi_lst_bl, isi_lst_str, isi_lst_tup, isi_lst_lst, isi_lst_lst_tup, isi_lst_bl_str, isi_kl_int, isi_kl_bl, isi_kl_str, isi_kl_tup, isi_kl_lst, isi_kl_lst_tup, isi_kl_bl_str, endD_rt, endD_nx, seq_tupD, seq_lstD, mm_int]
          by_cases h0 : 0 ≤ p.1 <;> simp [h0]⟩) (by simp; omega)]
        simp only [runB, ev_0A, ev_1A, ev_2A, ev_3A, ev_4A, ev_5A, ev_6A, ev_7A, ev_8A, ev_9A, ev_10A, ev_11A, ev_12A, ev_13A, ev_14A, ev_15A, ev_16A, ev_17A, ev_18A, ev_19A, ev_20A, ev_21A, evs_0A, evs_1A, evO_0A, evO_1A, evT_0A, evT_1A, evT_2A, evT_3A, evT_4A, evT_5A, evT_6A, evT_7A, evT_8A, evT_9A, evT_10A, evT_11A, evT_12A, evTs_0A, evTs_1A, evI_0A, evI_1A, evI_2A, evI_3A, evI_4A, evG_0A, evG_1A, evG_2A, evS_0A, evS_1A, evS_2A, evS_3A, evS_4A, evS_5A, evS_6A, evS_7A, evS_8A, evS_9A, evS_10A, bindO_ok, bindO_exn, bindO_bad, Res.bind_ok, Res.bind_exn, Res.bind_bad, Res.bindN_ok, optR_some, K0.d, EC, setN, setNs, wipeR, List.map_cons, List.map_nil, List.set_cons_zero, List.set_cons_succ, List.getElem?_cons_zero, List.getElem?_cons_succ, List.cons_append, List.nil_append, List.length_cons, List.length_nil, Option.map_some, Option.map_none, Nat.reduceAdd, Nat.reduceSub, Nat.reduceLeDiff, if_true, if_false, Bool.false_eq_true, List.replicate, evB_nil, evB_cons, seqO_nx, seqO_rt, seqO_exn, endD_exn, cmp_eq_int, cmp_ne_int, cmp_eq_bl, cmp_ne_bl, Bool.not_true, Bool.not_false, List.filterMap_cons, List.filterMap_nil, truth_bl, truth_int, truth_non, truth_tup, truth_lst, cmp_lt, cmp_le, cmp_gt, cmp_ge, cmp_in, cmp_inL, cmp_notin, ix_tup, ix_lst, ix_kl, add_int_true, sub_int_true, add_tup_true, pow_int_true, mul_tup_true, add_lst_true, sl_tup_true, sl_lst_true, sl_kl_true, len_tup_true, tuple_tup_true, list_tup_true, len_lst_true, tuple_lst_true, list_lst_true, len_kl_true, tuple_kl_true, list_kl_true, tuple_ref_true, int_int_true, int_bl_true, abs_int_true, all_lst_true, any_lst_true, sum_lst_true, max_lst_true, add_int_false, sub_int_false, add_tup_false, pow_int_false, mul_tup_false, add_lst_false, sl_tup_false, sl_lst_false, sl_kl_false, len_tup_false, tuple_tup_false, list_tup_false, len_lst_false, tuple_lst_false, list_lst_false, len_kl_false, tuple_kl_false, list_kl_false, tuple_ref_false, int_int_false, int_bl_false, abs_int_false, all_lst_false, any_lst_false, sum_lst_false, max_lst_false, newL_f, newL_t, sv_tup, sv_lst, sv_kl, se_tup, se_lst, se_kl, sz_tup, sz_lst, all_const, beq_self_eq_true, eq_self, decide_true, iD_len, in_iD, in_iDL, filter_tt, map_idd, atI_zero, blsOf_map, intsOf_map, all_map_id, cut_tail, is_int_n, isnot_int_n, is_bl_n, isnot_bl_n, is_str_n, isnot_str_n, is_tup_n, isnot_tup_n, is_lst_n, isnot_lst_n, is_kl_n, isnot_kl_n, is_non_n, isnot_non_n, is_bl_bl, seq_ref0, lst_ref0, own_ref0, truth_ref0, ix_ref0, app_ref0, tuple_ref0, len_ref0, set_ref0, isSome_some, atI_last, ix3_0, ix3_1, ix3_2, at3_1, at3_2, isi_non_int, isi_non_bl, isi_non_str, isi_non_tup, isi_non_lst, isi_non_lst_tup, isi_non_bl_str, isi_bl_int, isi_bl_bl, isi_bl_str, isi_bl_tup, isi_bl_lst, isi_bl_lst_tup, isi_bl_bl_str, isi_int_int, isi_int_bl, isi_int_str, isi_int_tup, isi_int_lst, isi_int_lst_tup, isi_int_bl_str, isi_str_int, isi_str_bl, isi_str_str, isi_str_tup, isi_str_lst, isi_str_lst_tup, isi_str_bl_str, isi_tup_int, isi_tup_bl, isi_tup_str, isi_tup_tup, isi_tup_lst, isi_tup_lst_tup, isi_tup_bl_str, isi_lst_int, isi_lst_bl, isi_lst_str, isi_lst_tup, isi_lst_lst, isi_lst_lst_tup, isi_lst_bl_str, isi_kl_int, isi_kl_bl, isi_kl_str, isi_kl_tup, isi_kl_lst, isi_kl_lst_tup, isi_kl_bl_str, endD_rt, endD_nx, seq_tupD, seq_lstD, mm_int, isK, h7, decide_true, Bool.true_and, okTail_all]
      · simp only [runB, ev_0A, ev_1A, ev_2A, ev_3A, ev_4A, ev_5A, ev_6A, ev_7A, ev_8A, ev_9A, ev_10A, ev_11A, ev_12A, ev_13A, ev_14A, ev_15A, ev_16A, ev_17A, ev_18A, ev_19A, ev_20A, ev_21A, evs_0A, evs_1A, evO_0A, evO_1A, evT_0A, evT_1A, evT_2A, evT_3A, evT_4A, evT_5A, evT_6A, evT_7A, evT_8A, evT_9A, evT_10A, evT_11A, evT_12A, evTs_0A, evTs_1A, evI_0A, evI_1A, evI_2A, evI_3A, evI_4A, evG_0A, evG_1A, evG_2A, evS_0A, evS_1A, evS_2A, evS_3A, evS_4A, evS_5A, evS_6A, evS_7A, evS_8A, evS_9A, evS_10A, bindO_ok, bindO_exn, bindO_bad, Res.bind_ok, Res.bind_exn, Res.bind_bad, Res.bindN_ok, optR_some, K0.d, EC, setN, setNs, wipeR, List.map_cons, List.map_nil, List.set_cons_zero, List.set_cons_succ, List.getElem?_cons_zero, List.getElem?_cons_succ, List.cons_append, List.nil_append, List.length_cons, List.length_nil, Option.map_some, Option.map_none, Nat.reduceAdd, Nat.reduceSub, Nat.reduceLeDiff, if_true, if_false, Bool.false_eq_true, List.replicate, evB_nil, evB_cons, seqO_nx, seqO_rt, seqO_exn, endD_exn, cmp_eq_int, cmp_ne_int, cmp_eq_bl, cmp_ne_bl, Bool.not_true, Bool.not_false, List.filterMap_cons, List.filterMap_nil, truth_bl, truth_int, truth_non, truth_tup, truth_lst, cmp_lt, cmp_le, cmp_gt, cmp_ge, cmp_in, cmp_inL, cmp_notin, ix_tup, ix_lst, ix_kl, add_int_true, sub_int_true, add_tup_true, pow_int_true, mul_tup_true, add_lst_true, sl_tup_true, sl_lst_true, sl_kl_true, len_tup_true, tuple_tup_true, list_tup_true, len_lst_true, tuple_lst_true, list_lst_true, len_kl_true, tuple_kl_true, list_kl_true, tuple_ref_true, int_int_true, int_bl_true, abs_int_true, all_lst_true, any_lst_true, sum_lst_true, max_lst_true, add_int_false, sub_int_false, add_tup_false, pow_int_false, mul_tup_false, add_lst_false, sl_tup_false, sl_lst_false, sl_kl_false, len_tup_false, tuple_tup_false, list_tup_false, len_lst_false, tuple_lst_false, list_lst_false, len_kl_false, tuple_kl_false, list_kl_false, tuple_ref_false, int_int_false, int_bl_false, abs_int_false, all_lst_false, any_lst_false, sum_lst_false, max_lst_false, newL_f, newL_t, sv_tup, sv_lst, sv_kl, se_tup, se_lst, se_kl, sz_tup, sz_lst, all_const, beq_self_eq_true, eq_self, decide_true, iD_len, in_iD, in_iDL, filter_tt, map_idd, atI_zero, blsOf_map, intsOf_map, all_map_id, cut_tail, is_int_n, isnot_int_n, is_bl_n, isnot_bl_n, is_str_n, isnot_str_n, is_tup_n, isnot_tup_n, is_lst_n, isnot_lst_n, is_kl_n, isnot_kl_n, is_non_n, isnot_non_n, is_bl_bl, seq_ref0, lst_ref0, own_ref0, truth_ref0, ix_ref0, app_ref0, tuple_ref0, len_ref0, set_ref0, isSome_some, atI_last, ix3_0, ix3_1, ix3_2, at3_1, at3_2, isi_non_int, isi_non_bl, isi_non_str, isi_non_tup, isi_non_lst, isi_non_lst_tup, isi_non_bl_str, isi_bl_int, isi_bl_bl, isi_bl_str, isi_bl_tup, isi_bl_lst, isi_bl_lst_tup, isi_bl_bl_str, isi_int_int, isi_int_bl, isi_int_str, isi_int_tup, isi_int_lst, isi_int_lst_tup, isi_int_bl_str, isi_str_int, isi_str_bl, isi_str_str, isi_str_tup, isi_str_lst, isi_str_lst_tup, isi_str_bl_str, isi_tup_int, isi_tup_bl, isi_tup_str, isi_tup_tup, isi_tup_lst, isi_tup_lst_tup, isi_tup_bl_str, isi_lst_int, isi_lst_bl, isi_lst_str, isi_lst_tup, isi_lst_lst, isi_lst_lst_tup, isi_lst_bl_str, isi_kl_int, isi_kl_bl, isi_kl_str, isi_kl_tup, isi_kl_lst, isi_kl_lst_tup, isi_kl_bl_str, endD_rt, endD_nx, seq_tupD, seq_lstD, mm_int, hk, decide_false, isK, Bool.and_false, Bool.false_and]
    · have a2 : ¬ (((r.length + 1 : Nat)) : Int) ≤ 8 := by omega
      simp only [iD_cons, runB, ev_0A, ev_1A, ev_2A, ev_3A, ev_4A, ev_5A, ev_6A, ev_7A, ev_8A, ev_9A, ev_10A, ev_11A, ev_12A, ev_13A, ev_14A, ev_15A, ev_16A, ev_17A, ev_18A, ev_19A, ev_20A, ev_21A, evs_0A, evs_1A, evO_0A, evO_1A, evT_0A, evT_1A, evT_2A, evT_3A, evT_4A, evT_5A, evT_6A, evT_7A, evT_8A, evT_9A, evT_10A, evT_11A, evT_12A, evTs_0A, evTs_1A, evI_0A, evI_1A, evI_2A, evI_3A, evI_4A, evG_0A, evG_1A, evG_2A, evS_0A, evS_1A, evS_2A, evS_3A, evS_4A, evS_5A, evS_6A, evS_7A, evS_8A, evS_9A, evS_10A, bindO_ok, bindO_exn, bindO_bad, Res.bind_ok, Res.bind_exn, Res.bind_bad, Res.bindN_ok, optR_some, K0.d, EC, setN, setNs, wipeR, List.map_cons, List.map_nil, List.set_cons_zero, List.set_cons_succ, List.getElem?_cons_zero, List.getElem?_cons_succ, List.cons_append, List.nil_append, List.length_cons, List.length_nil, Option.map_some, Option.map_none, Nat.reduceAdd, Nat.reduceSub, Nat.reduceLeDiff, if_true, if_false, Bool.false_eq_true, List.replicate, evB_nil, evB_cons, seqO_nx, seqO_rt, seqO_exn, endD_exn, cmp_eq_int, cmp_ne_int, cmp_eq_bl, cmp_ne_bl, Bool.not_true, Bool.not_false, List.filterMap_cons, List.filterMap_nil, truth_bl, truth_int, truth_non, truth_tup, truth_lst, cmp_lt, cmp_le, cmp_gt, cmp_ge, cmp_in, cmp_inL, cmp_notin, ix_tup, ix_lst, ix_kl, add_int_true, sub_int_true, add_tup_true, pow_int_true, mul_tup_true, add_lst_true, sl_tup_true, sl_lst_true, sl_kl_true, len_tup_true, tuple_tup_true, list_tup_true, len_lst_true, tuple_lst_true, list_lst_true, len_kl_true, tuple_kl_true, list_kl_true, tuple_ref_true, int_int_true, int_bl_true, abs_int_true, all_lst_true, any_lst_true, sum_lst_true, max_lst_true, add_int_false, sub_int_false, add_tup_false, pow_int_false, mul_tup_false, add_lst_false, sl_tup_false, sl_lst_false, sl_kl_false, len_tup_false, tuple_tup_false, list_tup_false, len_lst_false, tuple_lst_false, list_lst_false, len_kl_false, tuple_kl_false, list_kl_false, tuple_ref_false, int_int_false, int_bl_false, abs_int_false, all_lst_false, any_lst_false, sum_lst_false, max_lst_false, newL_f, newL_t, sv_tup, sv_lst, sv_kl, se_tup, se_lst, se_kl, sz_tup, sz_lst, all_const, beq_self_eq_true, eq_self, decide_true, iD_len, in_iD, in_iDL, filter_tt, map_idd, atI_zero, blsOf_map, intsOf_map, all_map_id, cut_tail, is_int_n, isnot_int_n, is_bl_n, isnot_bl_n, is_str_n, isnot_str_n, is_tup_n, isnot_tup_n, is_lst_n, isnot_lst_n, is_kl_n, isnot_kl_n, is_non_n, isnot_non_n, is_bl_bl, seq_ref0, lst_ref0, own_ref0, truth_ref0, ix_ref0, app_ref0, tuple_ref0, len_ref0, set_ref0, isSome_some, atI_last, ix3_0, ix3_1, ix3_2, at3_1, at3_2, isi_non_int, isi_non_bl, isi_non_str, isi_non_tup, isi_non_lst, isi_non_lst_tup, isi_non_bl_str, isi_bl_int, isi_bl_bl, isi_bl_str, isi_bl_tup, isi_bl_lst, isi_bl_lst_tup, isi_bl_bl_str, isi_int_int, isi_int_bl, isi_int_str, isi_int_tup, isi_int_lst, isi_int_lst_tup, isi_int_bl_str, isi_str_int, isi_str_bl, isi_str_str, isi_str_tup, isi_str_lst, isi_str_lst_tup, isi_str_bl_str, isi_tup_int, isi_tup_bl, isi_tup_str, isi_tup_tup, isi_tup_lst, isi_tup_lst_tup, isi_tup_bl_str, isi_lst_int, isi_lst_bl, isi_lst_str, isi_lst_tup, isi_lst_lst, isi_lst_lst_tup, isi_lst_bl_str, isi_kl_int, isi_kl_bl, isi_kl_str, isi_kl_tup, isi_kl_lst, isi_kl_lst_tup, isi_kl_bl_str, endD_rt, endD_nx, seq_tupD, seq_lstD, mm_int, a1, a2, decide_true, decide_false, isK, h7, Bool.false_and]
theorem e_isK_no {n : Nat} {xs : List D} {S : Store} (h : xs.all flat = true) (hl : xs.length < 1000) (hn : xs.all isI = false) : E (n + 3) 7 [.tup xs] S = .ok (.bl false) S := by
  refine callP (fd := d7.fd) rfl rfl rfl (by simp only [D.pures, D.pure, Bool.and_true]; exact flats_pures h) (S1 := []) ?_ rfl
  show runB (C (n + 2)) ⟨1, 3, true, b7⟩ _ _ = _
  have q : callN (tblOf tbl) (cnOf cis) 1000 (n + 2) 2 [.tup xs] [] = .ok (.bl false) [] := by
    have := e_numbers (n := n) (S := []) h hl
    rw [hn] at this
    exact this
  simp only [b7, runB, ev_0A, ev_1A, ev_2A, ev_3A, ev_4A, ev_5A, ev_6A, ev_7A, ev_8A, ev_9A, ev_10A, ev_11A, ev_12A, ev_13A, ev_14A, ev_15A, ev_16A, ev_17A, ev_18A, ev_19A, ev_20A, ev_21A, evs_0A, evs_1A, evO_0A, evO_1A, evT_0A, evT_1A, evT_2A, evT_3A, evT_4A, evT_5A, evT_6A, evT_7A, evT_8A, evT_9A, evT_10A, evT_11A, evT_12A, evTs_0A, evTs_1A, evI_0A, evI_1A, evI_2A, evI_3A, evI_4A, evG_0A, evG_1A, evG_2A, evS_0A, evS_1A, evS_2A, evS_3A, evS_4A, evS_5A, evS_6A, evS_7A, evS_8A, evS_9A, evS_10A, bindO_ok, bindO_exn, bindO_bad, Res.bind_ok, Res.bind_exn, Res.bind_bad, Res.bindN_ok, optR_some, K0.d, EC, setN, setNs, wipeR, List.map_cons, List.map_nil, List.set_cons_zero, List.set_cons_succ, List.getElem?_cons_zero, List.getElem?_cons_succ, List.cons_append, List.nil_append, List.length_cons, List.length_nil, Option.map_some, Option.map_none, Nat.reduceAdd, Nat.reduceSub, Nat.reduceLeDiff, if_true, if_false, Bool.false_eq_true, List.replicate, evB_nil, evB_cons, seqO_nx, seqO_rt, seqO_exn, endD_exn, cmp_eq_int, cmp_ne_int, cmp_eq_bl, cmp_ne_bl, Bool.not_true, Bool.not_false, List.filterMap_cons, List.filterMap_nil, truth_bl, truth_int, truth_non, truth_tup, truth_lst, cmp_lt, cmp_le, cmp_gt, cmp_ge, cmp_in, cmp_inL, cmp_notin, ix_tup, ix_lst, ix_kl, add_int_true, sub_int_true, add_tup_true, pow_int_true, mul_tup_true, add_lst_true, sl_tup_true, sl_lst_true, sl_kl_true, len_tup_true, tuple_tup_true, list_tup_true, len_lst_true, tuple_lst_true, list_lst_true, len_kl_true, tuple_kl_true, list_kl_true, tuple_ref_true, int_int_true, int_bl_true, abs_int_true, all_lst_true, any_lst_true, sum_lst_true, max_lst_true, add_int_false, sub_int_false, add_tup_false, pow_int_false, mul_tup_false, add_lst_false, sl_tup_false, sl_lst_false, sl_kl_false, len_tup_false, tuple_tup_false, list_tup_false, len_lst_false, tuple_lst_false, list_lst_false, len_kl_false, tuple_kl_false, list_kl_false, tuple_ref_false, int_int_false, int_bl_false, abs_int_false, all_lst_false, any_lst_false, sum_lst_false, max_lst_false, newL_f, newL_t, sv_tup, sv_lst, sv_kl, se_tup, se_lst, se_kl, sz_tup, sz_lst, all_const, beq_self_eq_true, eq_self, decide_true, iD_len, in_iD, in_iDL, filter_tt, map_idd, atI_zero, blsOf_map, intsOf_map, all_map_id, cut_tail, is_int_n, isnot_int_n, is_bl_n, isnot_bl_n, is_str_n, isnot_str_n, is_tup_n, isnot_tup_n, is_lst_n, isnot_lst_n, is_kl_n, isnot_kl_n, is_non_n, isnot_non_n, is_bl_bl, seq_ref0, lst_ref0, own_ref0, truth_ref0, ix_ref0, app_ref0, tuple_ref0, len_ref0, set_ref0, isSome_some, atI_last, ix3_0, ix3_1, ix3_2, at3_1, at3_2, isi_non_int, isi_non_bl, isi_non_str, isi_non_tup, isi_non_lst, isi_non_lst_tup, isi_non_bl_str, isi_bl_int, isi_bl_bl, isi_bl_str, isi_bl_tup, isi_bl_lst, isi_bl_lst_tup, isi_bl_bl_str, isi_int_int, isi_int_bl, isi_int_str, isi_int_tup, isi_int_lst, isi_int_lst_tup, isi_int_bl_str, isi_str_int, isi_str_bl, isi_str_str, isi_str_tup, isi_str_lst, isi_str_lst_tup, isi_str_bl_str, isi_tup_int, isi_tup_bl, isi_tup_str, isi_tup_tup, isi_tup_lst, isi_tup_lst_tup, isi_tup_bl_str, isi_lst_int, isi_lst_bl, isi_lst_str, isi_lst_tup, isi_lst_lst, isi_lst_lst_tup, isi_lst_bl_str, isi_kl_int, isi_kl_bl, isi_kl_str, isi_kl_tup, isi_kl_lst, isi_kl_lst_tup, isi_kl_bl_str, endD_rt, endD_nx, seq_tupD, seq_lstD, mm_int, q]
theorem e_isK_x {n : Nat} {x : D} {S : Store} (h : flat x = true) : E (n + 3) 7 [x] S = .ok (.bl false) S := by
  cases x <;> first | rfl | cases h
theorem e_isK_L {n : Nat} {xs : List D} {S : Store} (h : D.pures xs = true) : E (n + 3) 7 [.lst xs] S = .ok (.bl false) S := by
  refine callP (fd := d7.fd) rfl rfl rfl (by simp only [D.pures, D.pure, Bool.and_true]; exact h) (S1 := []) ?_ rfl
  show runB (C (n + 2)) ⟨1, 3, true, b7⟩ _ _ = _
  have q : callN (tblOf tbl) (cnOf cis) 1000 (n + 2) 2 [.lst xs] [] = .ok (.bl false) [] := by
    refine callP (fd := d2.fd) rfl rfl rfl (by simp only [D.pures, D.pure, Bool.and_true]; exact h) (S1 := []) ?_ rfl
    rfl
  simp only [b7, runB, ev_0A, ev_1A, ev_2A, ev_3A, ev_4A, ev_5A, ev_6A, ev_7A, ev_8A, ev_9A, ev_10A, ev_11A, ev_12A, ev_13A, ev_14A, ev_15A, ev_16A, ev_17A, ev_18A, ev_19A, ev_20A, ev_21A, evs_0A, evs_1A, evO_0A, evO_1A, evT_0A, evT_1A, evT_2A, evT_3A, evT_4A, evT_5A, evT_6A, evT_7A, evT_8A, evT_9A, evT_10A, evT_11A, evT_12A, evTs_0A, evTs_1A, evI_0A, evI_1A, evI_2A, evI_3A, evI_4A, evG_0A, evG_1A, evG_2A, evS_0A, evS_1A, evS_2A, evS_3A, evS_4A, evS_5A, evS_6A, evS_7A, evS_8A, evS_9A, evS_10A, bindO_ok, bindO_exn, bindO_bad, Res.bind_ok, Res.bind_exn, Res.bind_bad, Res.bindN_ok, optR_some, K0.d, EC, setN, setNs, wipeR, List.map_cons, List.map_nil, List.set_cons_zero, List.set_cons_succ, List.getElem?_cons_zero, List.getElem?_cons_succ, List.cons_append, List.nil_append, List.length_cons, List.length_nil, Option.map_some, Option.map_none, Nat.reduceAdd, Nat.reduceSub, Nat.reduceLeDiff, if_true, if_false, Bool.false_eq_true, List.replicate, evB_nil, evB_cons, seqO_nx, seqO_rt, seqO_exn, endD_exn, cmp_eq_int, cmp_ne_int, cmp_eq_bl, cmp_ne_bl, Bool.not_true, Bool.not_false, List.filterMap_cons, List.filterMap_nil, truth_bl, truth_int, truth_non, truth_tup, truth_lst, cmp_lt, cmp_le, cmp_gt, cmp_ge, cmp_in, cmp_inL, cmp_notin, ix_tup, ix_lst, ix_kl, add_int_true, sub_int_true, add_tup_true, pow_int_true, mul_tup_true, add_lst_true, sl_tup_true, sl_lst_true, sl_kl_true, len_tup_true, tuple_tup_true, list_tup_true, len_lst_true, tuple_lst_true, list_lst_true, len_kl_true, tuple_kl_true, list_kl_true, tuple_ref_true, int_int_true, int_bl_true, abs_int_true, all_lst_true, any_lst_true, sum_lst_true, max_lst_true, add_int_false, sub_int_false, add_tup_false, pow_int_false, mul_tup_false, add_lst_false, sl_tup_false, sl_lst_false, sl_kl_false, len_tup_false, tuple_tup_false, list_tup_false, len_lst_false, tuple_lst_false, list_lst_false, len_kl_false, tuple_kl_false, list_kl_false, tuple_ref_false, int_int_false, int_bl_false, abs_int_false, all_lst_false, any_lst_false, sum_lst_false, max_lst_false, newL_f, newL_t, sv_tup, sv_lst, sv_kl, se_tup, se_lst, se_kl, sz_tup, sz_lst, all_const, beq_self_eq_true, eq_self, decide_true, iD_len, in_iD, in_iDL, filter_tt, map_idd, atI_zero, blsOf_map, intsOf_map, all_map_id, cut_tail, is_int_n, isnot_int_n, is_bl_n, isnot_bl_n, is_str_n, isnot_str_n, is_tup_n, isnot_tup_n, is_lst_n, isnot_lst_n, is_kl_n, isnot_kl_n, is_non_n, isnot_non_n, is_bl_bl, seq_ref0, lst_ref0, own_ref0, truth_ref0, ix_ref0, app_ref0, tuple_ref0, len_ref0, set_ref0, isSome_some, atI_last, ix3_0, ix3_1, ix3_2, at3_1, at3_2, isi_non_int, isi_non_bl, isi_non_str, isi_non_tup, isi_non_lst, isi_non_lst_tup, isi_non_bl_str, isi_bl_int, isi_bl_bl, isi_bl_str, isi_bl_tup, isi_bl_lst, isi_bl_lst_tup, isi_bl_bl_str, isi_int_int, isi_int_bl, isi_int_str, isi_int_tup, isi_int_lst, isi_int_lst_tup, isi_int_bl_str, isi_str_int, isi_str_bl, isi_str_str, isi_str_tup, isi_str_lst, isi_str_lst_tup, isi_str_bl_str, isi_tup_int, isi_tup_bl, isi_tup_str, isi_tup_tup, isi_tup_lst, isi_tup_lst_tup, isi_tup_bl_str, isi_lst_int, isi_lst_bl, isi_lst_str, isi_lst_tup, isi_lst_lst, isi_lst_lst_tup, isi_lst_bl_str, isi_kl_int, isi_kl_bl, isi_kl_str, isi_kl_tup, isi_kl_lst, isi_kl_lst_tup, isi_kl_bl_str, endD_rt, endD_nx, seq_tupD, seq_lstD, mm_int, q]
/-! ### sure_kinds, sure_kind -/
theorem e_sureT {n : Nat} {ks : List Int} {S : Store} (h : isK ks = true) (hl : ks.length < 1000) : E (n + 4) 8 [.tup (iD ks)] S = .ok (.tup (iD ks)) S := by
  refine callP (fd := d8.fd) rfl rfl rfl (by simp only [D.pures, D.pure, Bool.and_true]; exact iD_pures ks) (S1 := []) ?_ (by simp only [D.pure]; exact iD_pures ks)
  show runB (C (n + 3)) ⟨1, 2, true, b8⟩ _ _ = _
  have q1 : callN (tblOf tbl) (cnOf cis) 1000 (n + 3) 4 [.tup (iD ks)] [] = .ok (.tup (iD ks)) [] := e_tupledT (n := n + 1) (iD_flat ks) (by rw [iD_len]; exact hl)
  have q2 : callN (tblOf tbl) (cnOf cis) 1000 (n + 3) 7 [.tup (iD ks)] [] = .ok (.bl true) [] := by rw [← h]; exact e_isK hl
  simp only [b8, runB, ev_0A, ev_1A, ev_2A, ev_3A, ev_4A, ev_5A, ev_6A, ev_7A, ev_8A, ev_9A, ev_10A, ev_11A, ev_12A, ev_13A, ev_14A, ev_15A, ev_16A, ev_17A, ev_18A, ev_19A, ev_20A, ev_21A, evs_0A, evs_1A, evO_0A, evO_1A, evT_0A, evT_1A, evT_2A, evT_3A, evT_4A, evT_5A, evT_6A, evT_7A, evT_8A, evT_9A, evT_10A, evT_11A, evT_12A, evTs_0A, evTs_1A, evI_0A, evI_1A, evI_2A, evI_3A, evI_4A, evG_0A, evG_1A, evG_2A, evS_0A, evS_1A, evS_2A, evS_3A, evS_4A, evS_5A, evS_6A, evS_7A, evS_8A, evS_9A, evS_10A, bindO_ok, bindO_exn, bindO_bad, Res.bind_ok, Res.bind_exn, Res.bind_bad, Res.bindN_ok, optR_some, K0.d, EC, setN, setNs, wipeR, List.map_cons, List.map_nil, List.set_cons_zero, List.set_cons_succ, List.getElem?_cons_zero, List.getElem?_cons_succ, List.cons_append, List.nil_append, List.length_cons, List.length_nil, Option.map_some, Option.map_none, Nat.reduceAdd, Nat.reduceSub, Nat.reduceLeDiff, if_true, if_false, Bool.false_eq_true, List.replicate, evB_nil, evB_cons, seqO_nx, seqO_rt, seqO_exn, endD_exn, cmp_eq_int, cmp_ne_int, cmp_eq_bl, cmp_ne_bl, Bool.not_true, Bool.not_false, List.filterMap_cons, List.filterMap_nil, truth_bl, truth_int, truth_non, truth_tup, truth_lst, cmp_lt, cmp_le, cmp_gt, cmp_ge, cmp_in, cmp_inL, cmp_notin, ix_tup, ix_lst, ix_kl, add_int_true, sub_int_true, add_tup_true, pow_int_true, mul_tup_true, add_lst_true, sl_tup_true, sl_lst_true, sl_kl_true, len_tup_true, tuple_tup_true, list_tup_true, len_lst_true, tuple_lst_true, list_lst_true, len_kl_true, tuple_kl_true, list_kl_true, tuple_ref_true, int_int_true, int_bl_true, abs_int_true, all_lst_true, any_lst_true, sum_lst_true, max_lst_true, add_int_false, sub_int_false, add_tup_false, pow_int_false, mul_tup_false, add_lst_false, sl_tup_false, sl_lst_false, sl_kl_false, len_tup_false, tuple_tup_false, list_tup_false, len_lst_false, tuple_lst_false, list_lst_false, len_kl_false, tuple_kl_false, list_kl_false, tuple_ref_false, int_int_false, int_bl_false, abs_int_false, all_lst_false, any_lst_false, sum_lst_false, max_lst_false, newL_f, newL_t, sv_tup, sv_lst, sv_kl, se_tup, se_lst, se_kl, sz_tup, sz_lst, all_const, beq_self_eq_true, eq_self, decide_true, iD_len, in_iD, in_iDL, filter_tt, map_idd, atI_zero, blsOf_map, intsOf_map, all_map_id, cut_tail, is_int_n, isnot_int_n, is_bl_n, isnot_bl_n, is_str_n, isnot_str_n, is_tup_n, isnot_tup_n, is_lst_n, isnot_lst_n, is_kl_n, isnot_kl_n, is_non_n, isnot_non_n, is_bl_bl, seq_ref0, lst_ref0, own_ref0, truth_ref0, ix_ref0, app_ref0, tuple_ref0, len_ref0, set_ref0, isSome_some, atI_last, ix3_0, ix3_1, ix3_2, at3_1, at3_2, isi_non_int, isi_non_bl, isi_non_str, isi_non_tup, isi_non_lst, isi_non_lst_tup, isi_non_bl_str, isi_bl_int, isi_bl_bl, isi_bl_str, isi_bl_tup, isi_bl_lst, isi_bl_lst_tup, isi_bl_bl_str, isi_int_int, isi_int_bl, isi_int_str, isi_int_tup, isi_int_lst, isi_int_lst_tup, isi_int_bl_str, isi_str_int, isi_str_bl, isi_str_str, isi_str_tup, isi_str_lst, isi_str_lst_tup, isi_str_bl_str, isi_tup_int, isi_tup_bl, isi_tup_str, isi_tup_tup, isi_tup_lst, isi_tup_lst_tup, isi_tup_bl_str, isi_lst_int, isi_lst_bl, isi_lst_str, isi_lst_tup, isi_lst_lst, isi_lst_lst_tup, isi_lst_bl_str, isi_kl_int, isi_kl_bl, isi_kl_str, isi_kl_tup, isi_kl_lst, isi_kl_lst_tup, isi_kl_bl_str, endD_rt, endD_nx, seq_tupD, seq_lstD, mm_int, q1, q2]
theorem e_sureL {n : Nat} {ks : List Int} {S : Store} (h : isK ks = true) (hl : ks.length < 1000) : E (n + 4) 8 [.lst (iD ks)] S = .ok (.tup (iD ks)) S := by
  refine callP (fd := d8.fd) rfl rfl rfl (by simp only [D.pures, D.pure, Bool.and_true]; exact iD_pures ks) (S1 := []) ?_ (by simp only [D.pure]; exact iD_pures ks)
  show runB (C (n + 3)) ⟨1, 2, true, b8⟩ _ _ = _
  have q1 : callN (tblOf tbl) (cnOf cis) 1000 (n + 3) 4 [.lst (iD ks)] [] = .ok (.tup (iD ks)) [] := e_tupledL (n := n + 1) (iD_flat ks) (by rw [iD_len]; exact hl)
  have q2 : callN (tblOf tbl) (cnOf cis) 1000 (n + 3) 7 [.tup (iD ks)] [] = .ok (.bl true) [] := by rw [← h]; exact e_isK hl
  simp only [b8, runB, ev_0A, ev_1A, ev_2A, ev_3A, ev_4A, ev_5A, ev_6A, ev_7A, ev_8A, ev_9A, ev_10A, ev_11A, ev_12A, ev_13A, ev_14A, ev_15A, ev_16A, ev_17A, ev_18A, ev_19A, ev_20A, ev_21A, evs_0A, evs_1A, evO_0A, evO_1A, evT_0A, evT_1A, evT_2A, evT_3A, evT_4A, evT_5A, evT_6A, evT_7A, evT_8A, evT_9A, evT_10A, evT_11A, evT_12A, evTs_0A, evTs_1A, evI_0A, evI_1A, evI_2A, evI_3A, evI_4A, evG_0A, evG_1A, evG_2A, evS_0A, evS_1A, evS_2A, evS_3A, evS_4A, evS_5A, evS_6A, evS_7A, evS_8A, evS_9A, evS_10A, bindO_ok, bindO_exn, bindO_bad, Res.bind_ok, Res.bind_exn, Res.bind_bad, Res.bindN_ok, optR_some, K0.d, EC, setN, setNs, wipeR, List.map_cons, List.map_nil, List.set_cons_zero, List.set_cons_succ, List.getElem?_cons_zero, List.getElem?_cons_succ, List.cons_append, List.nil_append, List.length_cons, List.length_nil, Option.map_some, Option.map_none, Nat.reduceAdd, Nat.reduceSub, Nat.reduceLeDiff, if_true, if_false, Bool.false_eq_true, List.replicate, evB_nil, evB_cons, seqO_nx, seqO_rt, seqO_exn, endD_exn, cmp_eq_int, cmp_ne_int, cmp_eq_bl, cmp_ne_bl, Bool.not_true, Bool.not_false, List.filterMap_cons, List.filterMap_nil, truth_bl, truth_int, truth_non, truth_tup, truth_lst, cmp_lt, cmp_le, cmp_gt, cmp_ge, cmp_in, cmp_inL, cmp_notin, ix_tup, ix_lst, ix_kl, add_int_true, sub_int_true, add_tup_true, pow_int_true, mul_tup_true, add_lst_true, sl_tup_true, sl_lst_true, sl_kl_true, len_tup_true, tuple_tup_true, list_tup_true, len_lst_true, tuple_lst_true, list_lst_true, len_kl_true, tuple_kl_true, list_kl_true, tuple_ref_true, int_int_true, int_bl_true, abs_int_true, all_lst_true, any_lst_true, sum_lst_true, max_lst_true, add_int_false, sub_int_false, add_tup_false, pow_int_false, mul_tup_false, add_lst_false, sl_tup_false, sl_lst_false, sl_kl_false, len_tup_false, tuple_tup_false, list_tup_false, len_lst_false, tuple_lst_false, list_lst_false, len_kl_false, tuple_kl_false, list_kl_false, tuple_ref_false, int_int_false, int_bl_false, abs_int_false, all_lst_false, any_lst_false, sum_lst_false, max_lst_false, newL_f, newL_t, sv_tup, sv_lst, sv_kl, se_tup, se_lst, se_kl, sz_tup, sz_lst, all_const, beq_self_eq_true, eq_self, decide_true, iD_len, in_iD, in_iDL, filter_tt, map_idd, atI_zero, blsOf_map, intsOf_map, all_map_id, cut_tail, is_int_n, isnot_int_n, is_bl_n, isnot_bl_n, is_str_n, isnot_str_n, is_tup_n, isnot_tup_n, is_lst_n, isnot_lst_n, is_kl_n, isnot_kl_n, is_non_n, isnot_non_n, is_bl_bl, seq_ref0, lst_ref0, own_ref0, truth_ref0, ix_ref0, app_ref0, tuple_ref0, len_ref0, set_ref0, isSome_some, atI_last, ix3_0, ix3_1, ix3_2, at3_1, at3_2, isi_non_int, isi_non_bl, isi_non_str, isi_non_tup, isi_non_lst, isi_non_lst_tup, isi_non_bl_str, isi_bl_int, isi_bl_bl, isi_bl_str, isi_bl_tup, isi_bl_lst, isi_bl_lst_tup, isi_bl_bl_str, isi_int_int, isi_int_bl, isi_int_str, isi_int_tup, isi_int_lst, isi_int_lst_tup, isi_int_bl_str, isi_str_int, isi_str_bl, isi_str_str, isi_str_tup, isi_str_lst, isi_str_lst_tup, isi_str_bl_str, isi_tup_int, isi_tup_bl, isi_tup_str, isi_tup_tup, isi_tup_lst, isi_tup_lst_tup, isi_tup_bl_str, isi_lst_int, isi_lst_bl, isi_lst_str, isi_lst_tup, isi_lst_lst, isi_lst_lst_tup, isi_lst_bl_str, isi_kl_int, isi_kl_bl, isi_kl_str, isi_kl_tup, isi_kl_lst, isi_kl_lst_tup, isi_kl_bl_str, endD_rt, endD_nx, seq_tupD, seq_lstD, mm_int, q1, q2]
theorem e_sureK {n : Nat} {ks : List Int} {k : Int} {S : Store} (h0 : 0 ≤ k) (h1 : k < ks.length) : E (n + 3) 9 [.tup (iD ks), .int k] S = .ok (.int k) S := by
  refine callP (fd := d9.fd) rfl rfl rfl (by simp only [D.pures, D.pure, Bool.and_true]; exact iD_pures ks) (S1 := []) ?_ rfl
  show runB (C (n + 2)) ⟨2, 2, true, b9⟩ _ _ = _
  have q : callN (tblOf tbl) (cnOf cis) 1000 (n + 2) 1 [.int k, .int 0, .int (ks.length - 1)] [] = .ok (.bl true) [] := by
    have := e_within (n := n) (v := k) (lo := 0) (hi := (ks.length : Int) - 1) (S := [])
    rw [decide_eq_true h0, decide_eq_true (show k ≤ (ks.length : Int) - 1 by omega)] at this
    exact this
  simp only [b9, runB, ev_0A, ev_1A, ev_2A, ev_3A, ev_4A, ev_5A, ev_6A, ev_7A, ev_8A, ev_9A, ev_10A, ev_11A, ev_12A, ev_13A, ev_14A, ev_15A, ev_16A, ev_17A, ev_18A, ev_19A, ev_20A, ev_21A, evs_0A, evs_1A, evO_0A, evO_1A, evT_0A, evT_1A, evT_2A, evT_3A, evT_4A, evT_5A, evT_6A, evT_7A, evT_8A, evT_9A, evT_10A, evT_11A, evT_12A, evTs_0A, evTs_1A, evI_0A, evI_1A, evI_2A, evI_3A, evI_4A, evG_0A, evG_1A, evG_2A, evS_0A, evS_1A, evS_2A, evS_3A, evS_4A, evS_5A, evS_6A, evS_7A, evS_8A, evS_9A, evS_10A, bindO_ok, bindO_exn, bindO_bad, Res.bind_ok, Res.bind_exn, Res.bind_bad, Res.bindN_ok, optR_some, K0.d, EC, setN, setNs, wipeR, List.map_cons, List.map_nil, List.set_cons_zero, List.set_cons_succ, List.getElem?_cons_zero, List.getElem?_cons_succ, List.cons_append, List.nil_append, List.length_cons, List.length_nil, Option.map_some, Option.map_none, Nat.reduceAdd, Nat.reduceSub, Nat.reduceLeDiff, if_true, if_false, Bool.false_eq_true, List.replicate, evB_nil, evB_cons, seqO_nx, seqO_rt, seqO_exn, endD_exn, cmp_eq_int, cmp_ne_int, cmp_eq_bl, cmp_ne_bl, Bool.not_true, Bool.not_false, List.filterMap_cons, List.filterMap_nil, truth_bl, truth_int, truth_non, truth_tup, truth_lst, cmp_lt, cmp_le, cmp_gt, cmp_ge, cmp_in, cmp_inL, cmp_notin, ix_tup, ix_lst, ix_kl, add_int_true, sub_int_true, add_tup_true, pow_int_true, mul_tup_true, add_lst_true, sl_tup_true, sl_lst_true, sl_kl_true, len_tup_true, tuple_tup_true, list_tup_true, len_lst_true, tuple_lst_true, list_lst_true, len_kl_true, tuple_kl_true, list_kl_true, tuple_ref_true, int_int_true, int_bl_true, abs_int_true, all_lst_true, any_lst_true, sum_lst_true, max_lst_true, add_int_false, sub_int_false, add_tup_false, pow_int_false, mul_tup_false, add_lst_false, sl_tup_false, sl_lst_false, sl_kl_false, len_tup_false, tuple_tup_false, list_tup_false, len_lst_false, tuple_lst_false, list_lst_false, len_kl_false, tuple_kl_false, list_kl_false, tuple_ref_false, int_int_false, int_bl_false, abs_int_false, all_lst_false, any_lst_false, sum_lst_false, max_lst_false, newL_f, newL_t, sv_tup, sv_lst, sv_kl, se_tup, se_lst, se_kl, sz_tup, sz_lst, all_const, beq_self_eq_true, eq_self, decide_true, iD_len, in_iD, in_iDL, filter_tt, map_idd, atI_zero, blsOf_map, intsOf_map, all_map_id, cut_tail, is_int_n, isnot_int_n, is_bl_n, isnot_bl_n, is_str_n, isnot_str_n, is_tup_n, isnot_tup_n, is_lst_n, isnot_lst_n, is_kl_n, isnot_kl_n, is_non_n, isnot_non_n, is_bl_bl, seq_ref0, lst_ref0, own_ref0, truth_ref0, ix_ref0, app_ref0, tuple_ref0, len_ref0, set_ref0, isSome_some, atI_last, ix3_0, ix3_1, ix3_2, at3_1, at3_2, isi_non_int, isi_non_bl, isi_non_str, isi_non_tup, isi_non_lst, isi_non_lst_tup, isi_non_bl_str, isi_bl_int, isi_bl_bl, isi_bl_str, isi_bl_tup, isi_bl_lst, isi_bl_lst_tup, isi_bl_bl_str, isi_int_int, isi_int_bl, isi_int_str, isi_int_tup, isi_int_lst, isi_int_lst_tup, isi_int_bl_str, isi_str_int, isi_str_bl, isi_str_str, isi_str_tup, isi_str_lst, isi_str_lst_tup, isi_str_bl_str, isi_tup_int, isi_tup_bl, isi_tup_str, isi_tup_tup, isi_tup_lst, isi_tup_lst_tup, isi_tup_bl_str, isi_lst_int, isi_lst_bl, isi_lst_str, isi_lst_tup, isi_lst_lst, isi_lst_lst_tup, isi_lst_bl_str, isi_kl_int, isi_kl_bl, isi_kl_str, isi_kl_tup, isi_kl_lst, isi_kl_lst_tup, isi_kl_bl_str, endD_rt, endD_nx, seq_tupD, seq_lstD, mm_int, q]
/-! ### lines -/
abbrev par (ks : List Int) (k : Int) : Int := ks.getD k.toNat (-1)
def lineF (ks : List Int) : Nat → Int → List Int
  | 0, _ => []
  | f + 1, k => if 0 ≤ k then k :: lineF ks f (par ks k) else []
def line (ks : List Int) (k : Int) : List Int := lineF ks ks.length k
theorem okTail_get : ∀ (r : List Int) (i j : Nat), okTail i r = true → j < r.length → 0 ≤ r.getD j (-1) ∧ r.getD j (-1) < (i + j : Nat) + 1
  | [], _, _, _, h => by cases h
  | k :: r, i, j, h, hj => by
    simp only [okTail, Bool.and_eq_true, decide_eq_true_eq] at h
    obtain ⟨⟨h1, h2⟩, h3⟩ := h
    cases j with
    | zero => simp; omega
    | succ j =>
      have q := okTail_get r (i + 1) j h3 (by simpa using hj)
      simp only [List.getD_cons_succ]
      omega
theorem isK_par {ks : List Int} (h : isK ks = true) {k : Int} (h0 : 0 ≤ k) (h1 : k < ks.length) : -1 ≤ par ks k ∧ par ks k < k := by
  unfold isK at h
  cases ks with
  | nil => cases h
  | cons a r =>
    simp only [Bool.and_eq_true, decide_eq_true_eq] at h
    obtain ⟨⟨h2, h3⟩, h4⟩ := h
    subst h3
    by_cases hk : k = 0
    · subst hk
      simp [par]
    · have e : k.toNat = (k.toNat - 1) + 1 := by omega
      have hl : k.toNat - 1 < r.length := by simp at h1; omega
      have q := okTail_get r 0 (k.toNat - 1) h4 hl
      unfold par
      rw [e, List.getD_cons_succ]
      omega
theorem isK_len {ks : List Int} (h : isK ks = true) : 1 ≤ ks.length ∧ ks.length ≤ 8 := by
  unfold isK at h
  cases ks with
  | nil => cases h
  | cons a r =>
    simp only [Bool.and_eq_true, decide_eq_true_eq] at h
    simp
    exact h.1.1
theorem line_len : ∀ (f : Nat) (ks : List Int) (k : Int), (lineF ks f k).length ≤ f
  | 0, _, _ => Nat.le_refl _
  | f + 1, ks, k => by
    unfold lineF
    split
    · simp only [List.length_cons]
      exact Nat.succ_le_succ (line_len f ks _)
    · exact Nat.zero_le _
theorem lineF_fuel {ks : List Int} (h : isK ks = true) : ∀ (f g : Nat) (x : Int), -1 ≤ x → x < ks.length → x < f → x < g → lineF ks f x = lineF ks g x
  | 0, 0, _, _, _, _, _ => rfl
  | 0, g + 1, x, h0, _, h1, _ => by
    have e : ¬ 0 ≤ x := by omega
    simp only [lineF, e, if_false]
  | f + 1, 0, x, h0, _, _, h1 => by
    have e : ¬ 0 ≤ x := by omega
    simp only [lineF, e, if_false]
  | f + 1, g + 1, x, h0, hl, h1, h2 => by
    by_cases e : 0 ≤ x
    · have p := isK_par h e hl
      simp only [lineF, e, if_true]
      rw [lineF_fuel h f g (par ks x) p.1 (by omega) (by omega) (by omega)]
    · simp only [lineF, e, if_false]
theorem line_le {ks : List Int} {k : Int} : (line ks k).length ≤ ks.length := line_len ks.length ks k
theorem line_step {ks : List Int} (h : isK ks = true) {k : Int} (h0 : 0 ≤ k) (h1 : k < ks.length) : line ks k = k :: line ks (par ks k) := by
  have p := isK_par h h0 h1
  unfold line
  rw [lineF_fuel h ks.length (ks.length + 1) k (by omega) h1 (by omega) (by omega)]
  simp only [lineF, h0, if_true]
theorem line_neg {ks : List Int} {k : Int} (h : k < 0) : line ks k = [] := by
  unfold line
  have e : ¬ 0 ≤ k := by omega
  cases ks.length <;> simp only [lineF, e, if_false]
theorem e_line {n : Nat} {ks : List Int} {k : Int} {S : Store} (h : isK ks = true) (h0 : 0 ≤ k) (h1 : k < ks.length) : E (n + 1) 10 [.tup (iD ks), .int k] S = .ok (.tup (iD (line ks k))) S := by
  have l8 := isK_len h
  refine callP (fd := d10.fd) rfl rfl rfl (by simp only [D.pures, D.pure, Bool.and_true]; exact iD_pures ks) (S1 := [.lst (iD (line ks k))]) ?_ (by simp only [D.pure]; exact iD_pures _)
  show runB (C n) ⟨2, 4, true, b10⟩ _ _ = _
  have loop : ∀ (f : Nat) (x : Int) (acc : List Int), -1 ≤ x → x < f → x < ks.length → acc.length + f ≤ 2000 → whileGo (evT (C n) (.cmp .ge (.var 3) (.con (.int 0)))) (evB (C n) (.cons (.expr (.meth (.var 2) .append (.cons (.var 3) .nil))) (.cons (.asg (.name 3) (.ix (.var 0) (.var 3))) .nil))) (f + 1)
      [some (.tup (iD ks)), some (.int k), some (.ref 0), some (.int x)] [.lst (iD acc)] = .nx [some (.tup (iD ks)), some (.int k), some (.ref 0), some (.int (-1))] [.lst (iD (acc ++ lineF ks f x))] := by
    intro f
    induction f with
    | zero =>
      intro x acc g0 g1 g2 g3
      have e : x = -1 := by omega
      subst e
      simp only [whileGo, runB, ev_0A, ev_1A, ev_2A, ev_3A, ev_4A, ev_5A, ev_6A, ev_7A, ev_8A, ev_9A, ev_10A, ev_11A, ev_12A, ev_13A, ev_14A, ev_15A, ev_16A, ev_17A, ev_18A, ev_19A, ev_20A, ev_21A, evs_0A, evs_1A, evO_0A, evO_1A, evT_0A, evT_1A, evT_2A, evT_3A, evT_4A, evT_5A, evT_6A, evT_7A, evT_8A, evT_9A, evT_10A, evT_11A, evT_12A, evTs_0A, evTs_1A, evI_0A, evI_1A, evI_2A, evI_3A, evI_4A, evG_0A, evG_1A, evG_2A, evS_0A, evS_1A, evS_2A, evS_3A, evS_4A, evS_5A, evS_6A, evS_7A, evS_8A, evS_9A, evS_10A, bindO_ok, bindO_exn, bindO_bad, Res.bind_ok, Res.bind_exn, Res.bind_bad, Res.bindN_ok, optR_some, K0.d, EC, setN, setNs, wipeR, List.map_cons, List.map_nil, List.set_cons_zero, List.set_cons_succ, List.getElem?_cons_zero, List.getElem?_cons_succ, List.cons_append, List.nil_append, List.length_cons, List.length_nil, Option.map_some, Option.map_none, Nat.reduceAdd, Nat.reduceSub, Nat.reduceLeDiff, if_true, if_false, Bool.false_eq_true, List.replicate, evB_nil, evB_cons, seqO_nx, seqO_rt, seqO_exn, endD_exn, cmp_eq_int, cmp_ne_int, cmp_eq_bl, cmp_ne_bl, Bool.not_true, Bool.not_false, List.filterMap_cons, List.filterMap_nil, truth_bl, truth_int, truth_non, truth_tup, truth_lst, cmp_lt, cmp_le, cmp_gt, cmp_ge, cmp_in, cmp_inL, cmp_notin, ix_tup, ix_lst, ix_kl, add_int_true, sub_int_true, add_tup_true, pow_int_true, mul_tup_true, add_lst_true, sl_tup_true, sl_lst_true, sl_kl_true, len_tup_true, tuple_tup_true, list_tup_true, len_lst_true, tuple_lst_true, list_lst_true, len_kl_true, tuple_kl_true, list_kl_true, tuple_ref_true, int_int_true, int_bl_true, abs_int_true, all_lst_true, any_lst_true, sum_lst_true, max_lst_true, add_int_false, sub_int_false, add_tup_false, pow_int_false, mul_tup_false, add_lst_false, sl_tup_false, sl_lst_false, sl_kl_false, len_tup_false, tuple_tup_false, list_tup_false, len_lst_false, tuple_lst_false, list_lst_false, len_kl_false, tuple_kl_false, list_kl_false, tuple_ref_false, int_int_false, int_bl_false, abs_int_false, all_lst_false, any_lst_false, sum_lst_false, max_lst_false, newL_f, newL_t, sv_tup, sv_lst, sv_kl, se_tup, se_lst, se_kl, sz_tup, sz_lst, all_const, beq_self_eq_true, eq_self, decide_true, iD_len, in_iD, in_iDL, filter_tt, map_idd, atI_zero, blsOf_map, intsOf_map, all_map_id, cut_tail, is_int_n, isnot_int_n, is_bl_n, isnot_bl_n, is_str_n, isnot_str_n, is_tup_n, isnot_tup_n, is_lst_n, isnot_lst_n, is_kl_n, isnot_kl_n, is_non_n, isnot_non_n, is_bl_bl, seq_ref0, lst_ref0, own_ref0, truth_ref0, ix_ref0, app_ref0, tuple_ref0, len_ref0, set_ref0, isSome_some, atI_last, ix3_0, ix3_1, ix3_2, at3_1, at3_2, isi_non_int, isi_non_bl, isi_non_str, isi_non_tup, isi_non_lst, isi_non_lst_tup, isi_non_bl_str, isi_bl_int, isi_bl_bl, isi_bl_str, isi_bl_tup, isi_bl_lst, isi_bl_lst_tup, isi_bl_bl_str, isi_int_int, isi_int_bl, isi_int_str, isi_int_tup, isi_int_lst, isi_int_lst_tup, isi_int_bl_str, isi_str_int, isi_str_bl, isi_str_str, isi_str_tup, isi_str_lst, isi_str_lst_tup, isi_str_bl_str, isi_tup_int, isi_tup_bl, isi_tup_str, isi_tup_tup, isi_tup_lst, isi_tup_lst_tup, isi_tup_bl_str, isi_lst_int, isi_lst_bl, isi_lst_str, isi_lst_tup, isi_lst_lst, isi_lst_lst_tup, isi_lst_bl_str, isi_kl_int, isi_kl_bl, isi_kl_str, isi_kl_tup, isi_kl_lst, isi_kl_lst_tup, isi_kl_bl_str, endD_rt, endD_nx, seq_tupD, seq_lstD, mm_int]
      simp [lineF]
    | succ f ih =>
      intro x acc g0 g1 g2 g3
      unfold whileGo
      by_cases hx : 0 ≤ x
      · have p := isK_par h hx g2
        simp only [runB, ev_0A, ev_1A, ev_2A, ev_3A, ev_4A, ev_5A, ev_6A, ev_7A, ev_8A, ev_9A, ev_10A, ev_11A, ev_12A, ev_13A, ev_14A, ev_15A, ev_16A, ev_17A, ev_18A, ev_19A, ev_20A, ev_21A, evs_0A, evs_1A, evO_0A, evO_1A, evT_0A, evT_1A, evT_2A, evT_3A, evT_4A, evT_5A, evT_6A, evT_7A, evT_8A, evT_9A, evT_10A, evT_11A, evT_12A, evTs_0A, evTs_1A, evI_0A, evI_1A, evI_2A, evI_3A, evI_4A, evG_0A, evG_1A, evG_2A, evS_0A, evS_1A, evS_2A, evS_3A, evS_4A, evS_5A, evS_6A, evS_7A, evS_8A, evS_9A, evS_10A, bindO_ok, bindO_exn, bindO_bad, Res.bind_ok, Res.bind_exn, Res.bind_bad, Res.bindN_ok, optR_some, K0.d, EC, setN, setNs, wipeR, List.map_cons, List.map_nil, List.set_cons_zero, List.set_cons_succ, List.getElem?_cons_zero, List.getElem?_cons_succ, List.cons_append, List.nil_append, List.length_cons, List.length_nil, Option.map_some, Option.map_none, Nat.reduceAdd, Nat.reduceSub, Nat.reduceLeDiff, if_true, if_false, Bool.false_eq_true, List.replicate, evB_nil, evB_cons, seqO_nx, seqO_rt, seqO_exn, endD_exn, cmp_eq_int, cmp_ne_int, cmp_eq_bl, cmp_ne_bl, Bool.not_true, Bool.not_false, List.filterMap_cons, List.filterMap_nil, truth_bl, truth_int, truth_non, truth_tup, truth_lst, cmp_lt, cmp_le, cmp_gt, cmp_ge, cmp_in, cmp_inL, cmp_notin, ix_tup, ix_lst, ix_kl, add_int_true, sub_int_true, add_tup_true, pow_int_true, mul_tup_true, add_lst_true, sl_tup_true, sl_lst_true, sl_kl_true, len_tup_true, tuple_tup_true, list_tup_true, len_lst_true, tuple_lst_true, list_lst_true, len_kl_true, tuple_kl_true, list_kl_true, tuple_ref_true, int_int_true, int_bl_true, abs_int_true, all_lst_true, any_lst_true, sum_lst_true, max_lst_true, add_int_false, sub_int_false, add_tup_false, pow_int_false, mul_tup_false, add_lst_false, sl_tup_false, sl_lst_false, sl_kl_false, len_tup_false, tuple_tup_false, list_tup_false, len_lst_false, tuple_lst_false, list_lst_false, len_kl_false, tuple_kl_false, list_kl_false, tuple_ref_false, int_int_false, int_bl_false, abs_int_false, all_lst_false, any_lst_false, sum_lst_false, max_lst_false, newL_f, newL_t, sv_tup, sv_lst, sv_kl, se_tup, se_lst, se_kl, sz_tup, sz_lst, all_const, beq_self_eq_true, eq_self, decide_true, iD_len, in_iD, in_iDL, filter_tt, map_idd, atI_zero, blsOf_map, intsOf_map, all_map_id, cut_tail, is_int_n, isnot_int_n, is_bl_n, isnot_bl_n, is_str_n, isnot_str_n, is_tup_n, isnot_tup_n, is_lst_n, isnot_lst_n, is_kl_n, isnot_kl_n, is_non_n, isnot_non_n, is_bl_bl, seq_ref0, lst_ref0, own_ref0, truth_ref0, ix_ref0, app_ref0, tuple_ref0, len_ref0, set_ref0, isSome_some, atI_last, ix3_0, ix3_1, ix3_2, at3_1, at3_2, isi_non_int, isi_non_bl, isi_non_str, isi_non_tup, isi_non_lst, isi_non_lst_tup, isi_non_bl_str, isi_bl_int, isi_bl_bl, isi_bl_str, isi_bl_tup, isi_bl_lst, isi_bl_lst_tup, isi_bl_bl_str, isi_int_int, isi_int_bl, isi_int_str, isi_int_tup, isi_int_lst, isi_int_lst_tup, isi_int_bl_str, isi_str_int, isi_str_bl, isi_str_str, isi_str_tup, isi_str_lst, isi_str_lst_tup, isi_str_bl_str, isi_tup_int, isi_tup_bl, isi_tup_str, isi_tup_tup, isi_tup_lst, isi_tup_lst_tup, isi_tup_bl_str, isi_lst_int, isi_lst_bl, isi_lst_str, isi_lst_tup, isi_lst_lst, isi_lst_lst_tup, isi_lst_bl_str, isi_kl_int, isi_kl_bl, isi_kl_str, isi_kl_tup, isi_kl_lst, isi_kl_lst_tup, isi_kl_bl_str, endD_rt, endD_nx, seq_tupD, seq_lstD, mm_int, hx, decide_true, atI_iD hx g2]
        rw [if_pos (by omega)]
        simp only [runB, ev_0A, ev_1A, ev_2A, ev_3A, ev_4A, ev_5A, ev_6A, ev_7A, ev_8A, ev_9A, ev_10A, ev_11A, ev_12A, ev_13A, ev_14A, ev_15A, ev_16A, ev_17A, ev_18A, ev_19A, ev_20A, ev_21A, evs_0A, evs_1A, evO_0A, evO_1A, evT_0A, evT_1A, evT_2A, evT_3A, evT_4A, evT_5A, evT_6A, evT_7A, evT_8A, evT_9A, evT_10A, evT_11A, evT_12A, evTs_0A, evTs_1A, evI_0A, evI_1A, evI_2A, evI_3A, evI_4A, evG_0A, evG_1A, evG_2A, evS_0A, evS_1A, evS_2A, evS_3A, evS_4A, evS_5A, evS_6A, evS_7A, evS_8A, evS_9A, evS_10A, bindO_ok, bindO_exn, bindO_bad, Res.bind_ok, Res.bind_exn, Res.bind_bad, Res.bindN_ok, optR_some, K0.d, EC, setN, setNs, wipeR, List.map_cons, List.map_nil, List.set_cons_zero, List.set_cons_succ, List.getElem?_cons_zero, List.getElem?_cons_succ, List.cons_append, List.nil_append, List.length_cons, List.length_nil, Option.map_some, Option.map_none, Nat.reduceAdd, Nat.reduceSub, Nat.reduceLeDiff, if_true, if_false, Bool.false_eq_true, List.replicate, evB_nil, evB_cons, seqO_nx, seqO_rt, seqO_exn, endD_exn, cmp_eq_int, cmp_ne_int, cmp_eq_bl, cmp_ne_bl, Bool.not_true, Bool.not_false, List.filterMap_cons, List.filterMap_nil, truth_bl, truth_int, truth_non, truth_tup, truth_lst, cmp_lt, cmp_le, cmp_gt, cmp_ge, cmp_in, cmp_inL, cmp_notin, ix_tup, ix_lst, ix_kl, add_int_true, sub_int_true, add_tup_true, pow_int_true, mul_tup_true, add_lst_true, sl_tup_true, sl_lst_true, sl_kl_true, len_tup_true, tuple_tup_true, list_tup_true, len_lst_true, tuple_lst_true, list_lst_true, len_kl_true, tuple_kl_true, list_kl_true, tuple_ref_true, int_int_true, int_bl_true, abs_int_true, all_lst_true, any_lst_true, sum_lst_true, max_lst_true, add_int_false, sub_int_false, add_tup_false, pow_int_false, mul_tup_false, add_lst_false, sl_tup_false, sl_lst_false, sl_kl_false, len_tup_false, tuple_tup_false, list_tup_false, len_lst_false, tuple_lst_false, list_lst_false, len_kl_false, tuple_kl_false, list_kl_false, tuple_ref_false, int_int_false, int_bl_false, abs_int_false, all_lst_false, any_lst_false, sum_lst_false, max_lst_false, newL_f, newL_t, sv_tup, sv_lst, sv_kl, se_tup, se_lst, se_kl, sz_tup, sz_lst, all_const, beq_self_eq_true, eq_self, decide_true, iD_len, in_iD, in_iDL, filter_tt, map_idd, atI_zero, blsOf_map, intsOf_map, all_map_id, cut_tail, is_int_n, isnot_int_n, is_bl_n, isnot_bl_n, is_str_n, isnot_str_n, is_tup_n, isnot_tup_n, is_lst_n, isnot_lst_n, is_kl_n, isnot_kl_n, is_non_n, isnot_non_n, is_bl_bl, seq_ref0, lst_ref0, own_ref0, truth_ref0, ix_ref0, app_ref0, tuple_ref0, len_ref0, set_ref0, isSome_some, atI_last, ix3_0, ix3_1, ix3_2, at3_1, at3_2, isi_non_int, isi_non_bl, isi_non_str, isi_non_tup, isi_non_lst, isi_non_lst_tup, isi_non_bl_str, isi_bl_int, isi_bl_bl, isi_bl_str, isi_bl_tup, isi_bl_lst, isi_bl_lst_tup, isi_bl_bl_str, isi_int_int, isi_int_bl, isi_int_str, isi_int_tup, isi_int_lst, isi_int_lst_tup, isi_int_bl_str, isi_str_int, isi_str_bl, isi_str_str, isi_str_tup, isi_str_lst, isi_str_lst_tup, isi_str_bl_str, isi_tup_int, isi_tup_bl, isi_tup_str, isi_tup_tup, isi_tup_lst, isi_tup_lst_tup, isi_tup_bl_str, isi_lst_int, isi_lst_bl, isi_lst_str, isi_lst_tup, isi_lst_lst, isi_lst_lst_tup, isi_lst_bl_str, isi_kl_int, isi_kl_bl, isi_kl_str, isi_kl_tup, isi_kl_lst, isi_kl_lst_tup, isi_kl_bl_str, endD_rt, endD_nx, seq_tupD, seq_lstD, mm_int, atI_iD hx g2]
        have e : iD acc ++ [D.int x] = iD (acc ++ [x]) := by rw [iD_app]; rfl
        rw [e, ih (par ks x) (acc ++ [x]) (by omega) (by omega) (by omega) (by simp; omega)]
        simp only [lineF, hx, if_true, List.append_assoc, List.singleton_append]
      · have e : x = -1 := by omega
        subst e
        simp only [runB, ev_0A, ev_1A, ev_2A, ev_3A, ev_4A, ev_5A, ev_6A, ev_7A, ev_8A, ev_9A, ev_10A, ev_11A, ev_12A, ev_13A, ev_14A, ev_15A, ev_16A, ev_17A, ev_18A, ev_19A, ev_20A, ev_21A, evs_0A, evs_1A, evO_0A, evO_1A, evT_0A, evT_1A, evT_2A, evT_3A, evT_4A, evT_5A, evT_6A, evT_7A, evT_8A, evT_9A, evT_10A, evT_11A, evT_12A, evTs_0A, evTs_1A, evI_0A, evI_1A, evI_2A, evI_3A, evI_4A, evG_0A, evG_1A, evG_2A, evS_0A, evS_1A, evS_2A, evS_3A, evS_4A, evS_5A, evS_6A, evS_7A, evS_8A, evS_9A, evS_10A, bindO_ok, bindO_exn, bindO_bad, Res.bind_ok, Res.bind_exn, Res.bind_bad, Res.bindN_ok, optR_some, K0.d, EC, setN, setNs, wipeR, List.map_cons, List.map_nil, List.set_cons_zero, List.set_cons_succ, List.getElem?_cons_zero, List.getElem?_cons_succ, List.cons_append, List.nil_append, List.length_cons, List.length_nil, Option.map_some, Option.map_none, Nat.reduceAdd, Nat.reduceSub, Nat.reduceLeDiff, if_true, if_false, Bool.false_eq_true, List.replicate, evB_nil, evB_cons, seqO_nx, seqO_rt, seqO_exn, endD_exn, cmp_eq_int, cmp_ne_int, cmp_eq_bl, cmp_ne_bl, Bool.not_true, Bool.not_false, List.filterMap_cons, List.filterMap_nil, truth_bl, truth_int, truth_non, truth_tup, truth_lst, cmp_lt, cmp_le, cmp_gt, cmp_ge, cmp_in, cmp_inL, cmp_notin, ix_tup, ix_lst, ix_kl, add_int_true, sub_int_true, add_tup_true, pow_int_true, mul_tup_true, add_lst_true, sl_tup_true, sl_lst_true, sl_kl_true, len_tup_true, tuple_tup_true, list_tup_true, len_lst_true, tuple_lst_true, list_lst_true, len_kl_true, tuple_kl_true, list_kl_true, tuple_ref_true, int_int_true, int_bl_true, abs_int_true, all_lst_true, any_lst_true, sum_lst_true, max_lst_true, add_int_false, sub_int_false, add_tup_false, pow_int_false, mul_tup_false, add_lst_false, sl_tup_false, sl_lst_false, sl_kl_false, len_tup_false, tuple_tup_false, list_tup_false, len_lst_false, tuple_lst_false, list_lst_false, len_kl_false, tuple_kl_false, list_kl_false, tuple_ref_false, int_int_false, int_bl_false, abs_int_false, all_lst_false, any_lst_false, sum_lst_false, max_lst_false, newL_f, newL_t, sv_tup, sv_lst, sv_kl, se_tup, se_lst, se_kl, sz_tup, sz_lst, all_const, beq_self_eq_true, eq_self, decide_true, iD_len, in_iD, in_iDL, filter_tt, map_idd, atI_zero, blsOf_map, intsOf_map, all_map_id, cut_tail, is_int_n, isnot_int_n, is_bl_n, isnot_bl_n, is_str_n, isnot_str_n, is_tup_n, isnot_tup_n, is_lst_n, isnot_lst_n, is_kl_n, isnot_kl_n, is_non_n, isnot_non_n, is_bl_bl, seq_ref0, lst_ref0, own_ref0, truth_ref0, ix_ref0, app_ref0, tuple_ref0, len_ref0, set_ref0, isSome_some, atI_last, ix3_0, ix3_1, ix3_2, at3_1, at3_2, isi_non_int, isi_non_bl, isi_non_str, isi_non_tup, isi_non_lst, isi_non_lst_tup, isi_non_bl_str, isi_bl_int, isi_bl_bl, isi_bl_str, isi_bl_tup, isi_bl_lst, isi_bl_lst_tup, isi_bl_bl_str, isi_int_int, isi_int_bl, isi_int_str, isi_int_tup, isi_int_lst, isi_int_lst_tup, isi_int_bl_str, isi_str_int, isi_str_bl, isi_str_str, isi_str_tup, isi_str_lst, isi_str_lst_tup, isi_str_bl_str, isi_tup_int, isi_tup_bl, isi_tup_str, isi_tup_tup, isi_tup_lst, isi_tup_lst_tup, isi_tup_bl_str, isi_lst_int, isi_lst_bl, isi_lst_str, isi_lst_tup, isi_lst_lst, isi_lst_lst_tup, isi_lst_bl_str, isi_kl_int, isi_kl_bl, isi_kl_str, isi_kl_tup, isi_kl_lst, isi_kl_lst_tup, isi_kl_bl_str, endD_rt, endD_nx, seq_tupD, seq_lstD, mm_int]
        simp [lineF]
  have q := loop 999 k [] (by omega) (by omega) h1 (by simp)
  have q0 : iD ([] : List Int) = [] := rfl
  rw [q0] at q
  rw [lineF_fuel h 999 ks.length k (by omega) h1 (by omega) (by omega)] at q
  simp only [b10, runB, ev_0A, ev_1A, ev_2A, ev_3A, ev_4A, ev_5A, ev_6A, ev_7A, ev_8A, ev_9A, ev_10A, ev_11A, ev_12A, ev_13A, ev_14A, ev_15A, ev_16A, ev_17A, ev_18A, ev_19A, ev_20A, ev_21A, evs_0A, evs_1A, evO_0A, evO_1A, evT_0A, evT_1A, evT_2A, evT_3A, evT_4A, evT_5A, evT_6A, evT_7A, evT_8A, evT_9A, evT_10A, evT_11A, evT_12A, evTs_0A, evTs_1A, evI_0A, evI_1A, evI_2A, evI_3A, evI_4A, evG_0A, evG_1A, evG_2A, evS_0A, evS_1A, evS_2A, evS_3A, evS_4A, evS_5A, evS_6A, evS_7A, evS_8A, evS_9A, evS_10A, bindO_ok, bindO_exn, bindO_bad, Res.bind_ok, Res.bind_exn, Res.bind_bad, Res.bindN_ok, optR_some, K0.d, EC, setN, setNs, wipeR, List.map_cons, List.map_nil, List.set_cons_zero, List.set_cons_succ, List.getElem?_cons_zero, List.getElem?_cons_succ, List.cons_append, List.nil_append, List.length_cons, List.length_nil, Option.map_some, Option.map_none, Nat.reduceAdd, Nat.reduceSub, Nat.reduceLeDiff, if_true, if_false, Bool.false_eq_true, List.replicate, evB_nil, evB_cons, seqO_nx, seqO_rt, seqO_exn, endD_exn, cmp_eq_int, cmp_ne_int, cmp_eq_bl, cmp_ne_bl, Bool.not_true, Bool.not_false, List.filterMap_cons, List.filterMap_nil, truth_bl, truth_int, truth_non, truth_tup, truth_lst, cmp_lt, cmp_le, cmp_gt, cmp_ge, cmp_in, cmp_inL, cmp_notin, ix_tup, ix_lst, ix_kl, add_int_true, sub_int_true, add_tup_true, pow_int_true, mul_tup_true, add_lst_true, sl_tup_true, sl_lst_true, sl_kl_true, len_tup_true, tuple_tup_true, list_tup_true, len_lst_true, tuple_lst_true, list_lst_true, len_kl_true, tuple_kl_true, list_kl_true, tuple_ref_true, int_int_true, int_bl_true, abs_int_true, all_lst_true, any_lst_true, sum_lst_true, max_lst_true, add_int_false, sub_int_false, add_tup_false, pow_int_false, mul_tup_false, add_lst_false, sl_tup_false, sl_lst_false, sl_kl_false, len_tup_false, tuple_tup_false, list_tup_false, len_lst_false, tuple_lst_false, list_lst_false, len_kl_false, tuple_kl_false, list_kl_false, tuple_ref_false, int_int_false, int_bl_false, abs_int_false, all_lst_false, any_lst_false, sum_lst_false, max_lst_false, newL_f, newL_t, sv_tup, sv_lst, sv_kl, se_tup, se_lst, se_kl, sz_tup, sz_lst, all_const, beq_self_eq_true, eq_self, decide_true, iD_len, in_iD, in_iDL, filter_tt, map_idd, atI_zero, blsOf_map, intsOf_map, all_map_id, cut_tail, is_int_n, isnot_int_n, is_bl_n, isnot_bl_n, is_str_n, isnot_str_n, is_tup_n, isnot_tup_n, is_lst_n, isnot_lst_n, is_kl_n, isnot_kl_n, is_non_n, isnot_non_n, is_bl_bl, seq_ref0, lst_ref0, own_ref0, truth_ref0, ix_ref0, app_ref0, tuple_ref0, len_ref0, set_ref0, isSome_some, atI_last, ix3_0, ix3_1, ix3_2, at3_1, at3_2, isi_non_int, isi_non_bl, isi_non_str, isi_non_tup, isi_non_lst, isi_non_lst_tup, isi_non_bl_str, isi_bl_int, isi_bl_bl, isi_bl_str, isi_bl_tup, isi_bl_lst, isi_bl_lst_tup, isi_bl_bl_str, isi_int_int, isi_int_bl, isi_int_str, isi_int_tup, isi_int_lst, isi_int_lst_tup, isi_int_bl_str, isi_str_int, isi_str_bl, isi_str_str, isi_str_tup, isi_str_lst, isi_str_lst_tup, isi_str_bl_str, isi_tup_int, isi_tup_bl, isi_tup_str, isi_tup_tup, isi_tup_lst, isi_tup_lst_tup, isi_tup_bl_str, isi_lst_int, isi_lst_bl, isi_lst_str, isi_lst_tup, isi_lst_lst, isi_lst_lst_tup, isi_lst_bl_str, isi_kl_int, isi_kl_bl, isi_kl_str, isi_kl_tup, isi_kl_lst, isi_kl_lst_tup, isi_kl_bl_str, endD_rt, endD_nx, seq_tupD, seq_lstD, mm_int, q]
  rfl
theorem e_isUnder {n : Nat} {ks : List Int} {a b : Int} {S : Store} (h : isK ks = true) (h0 : 0 ≤ a) (h1 : a < ks.length) : E (n + 2) 11 [.tup (iD ks), .int a, .int b] S = .ok (.bl (decide (b ∈ line ks a))) S := by
  refine callP (fd := d11.fd) rfl rfl rfl (by simp only [D.pures, D.pure, Bool.and_true]; exact iD_pures ks) (S1 := []) ?_ rfl
  show runB (C (n + 1)) ⟨3, 3, true, b11⟩ _ _ = _
  have q : callN (tblOf tbl) (cnOf cis) 1000 (n + 1) 10 [.tup (iD ks), .int a] [] = .ok (.tup (iD (line ks a))) [] := e_line h h0 h1
  simp only [b11, runB, ev_0A, ev_1A, ev_2A, ev_3A, ev_4A, ev_5A, ev_6A, ev_7A, ev_8A, ev_9A, ev_10A, ev_11A, ev_12A, ev_13A, ev_14A, ev_15A, ev_16A, ev_17A, ev_18A, ev_19A, ev_20A, ev_21A, evs_0A, evs_1A, evO_0A, evO_1A, evT_0A, evT_1A, evT_2A, evT_3A, evT_4A, evT_5A, evT_6A, evT_7A, evT_8A, evT_9A, evT_10A, evT_11A, evT_12A, evTs_0A, evTs_1A, evI_0A, evI_1A, evI_2A, evI_3A, evI_4A, evG_0A, evG_1A, evG_2A, evS_0A, evS_1A, evS_2A, evS_3A, evS_4A, evS_5A, evS_6A, evS_7A, evS_8A, evS_9A, evS_10A, bindO_ok, bindO_exn, bindO_bad, Res.bind_ok, Res.bind_exn, Res.bind_bad, Res.bindN_ok, optR_some, K0.d, EC, setN, setNs, wipeR, List.map_cons, List.map_nil, List.set_cons_zero, List.set_cons_succ, List.getElem?_cons_zero, List.getElem?_cons_succ, List.cons_append, List.nil_append, List.length_cons, List.length_nil, Option.map_some, Option.map_none, Nat.reduceAdd, Nat.reduceSub, Nat.reduceLeDiff, if_true, if_false, Bool.false_eq_true, List.replicate, evB_nil, evB_cons, seqO_nx, seqO_rt, seqO_exn, endD_exn, cmp_eq_int, cmp_ne_int, cmp_eq_bl, cmp_ne_bl, Bool.not_true, Bool.not_false, List.filterMap_cons, List.filterMap_nil, truth_bl, truth_int, truth_non, truth_tup, truth_lst, cmp_lt, cmp_le, cmp_gt, cmp_ge, cmp_in, cmp_inL, cmp_notin, ix_tup, ix_lst, ix_kl, add_int_true, sub_int_true, add_tup_true, pow_int_true, mul_tup_true, add_lst_true, sl_tup_true, sl_lst_true, sl_kl_true, len_tup_true, tuple_tup_true, list_tup_true, len_lst_true, tuple_lst_true, list_lst_true, len_kl_true, tuple_kl_true, list_kl_true, tuple_ref_true, int_int_true, int_bl_true, abs_int_true, all_lst_true, any_lst_true, sum_lst_true, max_lst_true, add_int_false, sub_int_false, add_tup_false, pow_int_false, mul_tup_false, add_lst_false, sl_tup_false, sl_lst_false, sl_kl_false, len_tup_false, tuple_tup_false, list_tup_false, len_lst_false, tuple_lst_false, list_lst_false, len_kl_false, tuple_kl_false, list_kl_false, tuple_ref_false, int_int_false, int_bl_false, abs_int_false, all_lst_false, any_lst_false, sum_lst_false, max_lst_false, newL_f, newL_t, sv_tup, sv_lst, sv_kl, se_tup, se_lst, se_kl, sz_tup, sz_lst, all_const, beq_self_eq_true, eq_self, decide_true, iD_len, in_iD, in_iDL, filter_tt, map_idd, atI_zero, blsOf_map, intsOf_map, all_map_id, cut_tail, is_int_n, isnot_int_n, is_bl_n, isnot_bl_n, is_str_n, isnot_str_n, is_tup_n, isnot_tup_n, is_lst_n, isnot_lst_n, is_kl_n, isnot_kl_n, is_non_n, isnot_non_n, is_bl_bl, seq_ref0, lst_ref0, own_ref0, truth_ref0, ix_ref0, app_ref0, tuple_ref0, len_ref0, set_ref0, isSome_some, atI_last, ix3_0, ix3_1, ix3_2, at3_1, at3_2, isi_non_int, isi_non_bl, isi_non_str, isi_non_tup, isi_non_lst, isi_non_lst_tup, isi_non_bl_str, isi_bl_int, isi_bl_bl, isi_bl_str, isi_bl_tup, isi_bl_lst, isi_bl_lst_tup, isi_bl_bl_str, isi_int_int, isi_int_bl, isi_int_str, isi_int_tup, isi_int_lst, isi_int_lst_tup, isi_int_bl_str, isi_str_int, isi_str_bl, isi_str_str, isi_str_tup, isi_str_lst, isi_str_lst_tup, isi_str_bl_str, isi_tup_int, isi_tup_bl, isi_tup_str, isi_tup_tup, isi_tup_lst, isi_tup_lst_tup, isi_tup_bl_str, isi_lst_int, isi_lst_bl, isi_lst_str, isi_lst_tup, isi_lst_lst, isi_lst_lst_tup, isi_lst_bl_str, isi_kl_int, isi_kl_bl, isi_kl_str, isi_kl_tup, isi_kl_lst, isi_kl_lst_tup, isi_kl_bl_str, endD_rt, endD_nx, seq_tupD, seq_lstD, mm_int, q]
def under (ks : List Int) (k : Int) : List Int := ((List.range ks.length).filter fun (j : Nat) => decide (k ∈ line ks (j : Int))).map fun (j : Nat) => (j : Int)
theorem iD_map {α : Type} {f : α → Int} {l : List α} : (l.map fun x => D.int (f x)) = iD (l.map f) := by
  unfold iD
  rw [List.map_map]
  rfl
theorem e_under {n : Nat} {ks : List Int} {k : Int} {S : Store} (h : isK ks = true) : E (n + 3) 12 [.tup (iD ks), .int k] S = .ok (.tup (iD (under ks k))) S := by
  have l8 := isK_len h
  refine callP (fd := d12.fd) rfl rfl rfl (by simp only [D.pures, D.pure, Bool.and_true]; exact iD_pures ks) (S1 := []) ?_ (by simp only [D.pure]; exact iD_pures _)
  show runB (C (n + 2)) ⟨2, 3, true, b12⟩ _ _ = _
  simp only [b12, runB, ev_0A, ev_1A, ev_2A, ev_3A, ev_4A, ev_5A, ev_6A, ev_7A, ev_8A, ev_9A, ev_10A, ev_11A, ev_12A, ev_13A, ev_14A, ev_15A, ev_16A, ev_17A, ev_18A, ev_19A, ev_20A, ev_21A, evs_0A, evs_1A, evO_0A, evO_1A, evT_0A, evT_1A, evT_2A, evT_3A, evT_4A, evT_5A, evT_6A, evT_7A, evT_8A, evT_9A, evT_10A, evT_11A, evT_12A, evTs_0A, evTs_1A, evI_0A, evI_1A, evI_2A, evI_3A, evI_4A, evG_0A, evG_1A, evG_2A, evS_0A, evS_1A, evS_2A, evS_3A, evS_4A, evS_5A, evS_6A, evS_7A, evS_8A, evS_9A, evS_10A, bindO_ok, bindO_exn, bindO_bad, Res.bind_ok, Res.bind_exn, Res.bind_bad, Res.bindN_ok, optR_some, K0.d, EC, setN, setNs, wipeR, List.map_cons, List.map_nil, List.set_cons_zero, List.set_cons_succ, List.getElem?_cons_zero, List.getElem?_cons_succ, List.cons_append, List.nil_append, List.length_cons, List.length_nil, Option.map_some, Option.map_none, Nat.reduceAdd, Nat.reduceSub, Nat.reduceLeDiff, if_true, if_false, Bool.false_eq_true, List.replicate, evB_nil, evB_cons, seqO_nx, seqO_rt, seqO_exn, endD_exn, cmp_eq_int, cmp_ne_int, cmp_eq_bl, cmp_ne_bl, Bool.not_true, Bool.not_false, List.filterMap_cons, List.filterMap_nil, truth_bl, truth_int, truth_non, truth_tup, truth_lst, cmp_lt, cmp_le, cmp_gt, cmp_ge, cmp_in, cmp_inL, cmp_notin, ix_tup, ix_lst, ix_kl, add_int_true, sub_int_true, add_tup_true, pow_int_true, mul_tup_true, add_lst_true, sl_tup_true, sl_lst_true, sl_kl_true, len_tup_true, tuple_tup_true, list_tup_true, len_lst_true, tuple_lst_true, list_lst_true, len_kl_true, tuple_kl_true, list_kl_true, tuple_ref_true, int_int_true, int_bl_true, abs_int_true, all_lst_true, any_lst_true, sum_lst_true, max_lst_true, add_int_false, sub_int_false, add_tup_false, pow_int_false, mul_tup_false, add_lst_false, sl_tup_false, sl_lst_false, sl_kl_false, len_tup_false, tuple_tup_false, list_tup_false, len_lst_false, tuple_lst_false, list_lst_false, len_kl_false, tuple_kl_false, list_kl_false, tuple_ref_false, int_int_false, int_bl_false, abs_int_false, all_lst_false, any_lst_false, sum_lst_false, max_lst_false, newL_f, newL_t, sv_tup, sv_lst, sv_kl, se_tup, se_lst, se_kl, sz_tup, sz_lst, all_const, beq_self_eq_true, eq_self, decide_true, iD_len, in_iD, in_iDL, filter_tt, map_idd, atI_zero, blsOf_map, intsOf_map, all_map_id, cut_tail, is_int_n, isnot_int_n, is_bl_n, isnot_bl_n, is_str_n, isnot_str_n, is_tup_n, isnot_tup_n, is_lst_n, isnot_lst_n, is_kl_n, isnot_kl_n, is_non_n, isnot_non_n, is_bl_bl, seq_ref0, lst_ref0, own_ref0, truth_ref0, ix_ref0, app_ref0, tuple_ref0, len_ref0, set_ref0, isSome_some, atI_last, ix3_0, ix3_1, ix3_2, at3_1, at3_2, isi_non_int, isi_non_bl, isi_non_str, isi_non_tup, isi_non_lst, isi_non_lst_tup, isi_non_bl_str, isi_bl_int, isi_bl_bl, isi_bl_str, isi_bl_tup, isi_bl_lst, isi_bl_lst_tup, isi_bl_bl_str, isi_int_int, isi_int_bl, isi_int_str, isi_int_tup, isi_int_lst, isi_int_lst_tup, isi_int_bl_str, isi_str_int, isi_str_bl, isi_str_str, isi_str_tup, isi_str_lst, isi_str_lst_tup, isi_str_bl_str, isi_tup_int, isi_tup_bl, isi_tup_str, isi_tup_tup, isi_tup_lst, isi_tup_lst_tup, isi_tup_bl_str, isi_lst_int, isi_lst_bl, isi_lst_str, isi_lst_tup, isi_lst_lst, isi_lst_lst_tup, isi_lst_bl_str, isi_kl_int, isi_kl_bl, isi_kl_str, isi_kl_tup, isi_kl_lst, isi_kl_lst_tup, isi_kl_bl_str, endD_rt, endD_nx, seq_tupD, seq_lstD, mm_int, sr_nat (m := ks.length) (by omega)]
  rw [lc_pureA (List.range ks.length) (fun j => .int (j : Nat)) (fun j => decide (k ∈ line ks (j : Int))) (fun j => .int (j : Nat)) (fun j => [some (.tup (iD ks)), some (.int k), some (.int (j : Nat))]) (fun i => at_rng i) (fun j hj => ⟨rfl, by
    have q : callN (tblOf tbl) (cnOf cis) 1000 (n + 2) 11 [.tup (iD ks), .int (j : Nat), .int k] [] = .ok (.bl (decide (k ∈ line ks (j : Int)))) [] := e_isUnder h (by omega) (by have := List.mem_range.mp hj; omega)
    simp only [runB, ev_0A, ev_1A, ev_2A, ev_3A, ev_4A, ev_5A, ev_6A, ev_7A, ev_8A, ev_9A, ev_10A, ev_11A, ev_12A, ev_13A, ev_14A, ev_15A, ev_16A, ev_17A, ev_18A, ev_19A, ev_20A, ev_21A, evs_0A, evs_1A, evO_0A, evO_1A, evT_0A, evT_1A, evT_2A, evT_3A, evT_4A, evT_5A, evT_6A, evT_7A, evT_8A, evT_9A, evT_10A, evT_11A, evT_12A, evTs_0A, evTs_1A, evI_0A, evI_1A, evI_2A, evI_3A, evI_4A, evG_0A, evG_1A, evG_2A, evS_0A, evS_1A, evS_2A, evS_3A, evS_4A, evS_5A, evS_6A, evS_7A, evS_8A, evS_9A, evS_10A, bindO_ok, bindO_exn, bindO_bad, Res.bind_ok, Res.bind_exn, Res.bind_bad, Res.bindN_ok, optR_some, K0.d, EC, setN, setNs, wipeR, List.map_cons, List.map_nil, List.set_cons_zero, List.set_cons_succ, List.getElem?_cons_zero, List.getElem?_cons_succ, List.cons_append, List.nil_append, List.length_cons, List.length_nil, Option.map_some, Option.map_none, Nat.reduceAdd, Nat.reduceSub, Nat.reduceLeDiff, if_true, if_false, Bool.false_eq_true, List.replicate, evB_nil, evB_cons, seqO_nx, seqO_rt, seqO_exn, endD_exn, cmp_eq_int, cmp_ne_int, cmp_eq_bl, cmp_ne_bl, Bool.not_true, Bool.not_false, List.filterMap_cons, List.filterMap_nil, truth_bl, truth_int, truth_non, truth_tup, truth_lst, cmp_lt, cmp_le, cmp_gt, cmp_ge, cmp_in, cmp_inL, cmp_notin, ix_tup, ix_lst, ix_kl, add_int_true, sub_int_true, add_tup_true, pow_int_true, mul_tup_true, add_lst_true, sl_tup_true, sl_lst_true, sl_kl_true, len_tup_true, tuple_tup_true, list_tup_true, len_lst_true, tuple_lst_true, list_lst_true, len_kl_true, tuple_kl_true, list_kl_true, tuple_ref_true, int_int_true, int_bl_true, abs_int_true, all_lst_true, any_lst_true, sum_lst_true, max_lst_true, add_int_false, sub_int_false, add_tup_false, pow_int_false, mul_tup_false, add_lst_false, sl_tup_false, sl_lst_false, sl_kl_false, len_tup_false, tuple_tup_false, list_tup_false, len_lst_false, tuple_lst_false, list_lst_false, len_kl_false, tuple_kl_false, list_kl_false, tuple_ref_false, int_int_false, int_bl_false, abs_int_false, all_lst_false, any_lst_false, sum_lst_false, max_lst_false, newL_f, newL_t, sv_tup, sv_lst, sv_kl, se_tup, se_lst, se_kl, sz_tup, sz_lst, all_const, beq_self_eq_true, eq_self, decide_true, iD_len, in_iD, in_iDL, filter_tt, map_idd, atI_zero, blsOf_map, intsOf_map, all_map_id, cut_tail, is_int_n, isnot_int_n, is_bl_n, isnot_bl_n, is_str_n, isnot_str_n, is_tup_n, isnot_tup_n, is_lst_n, isnot_lst_n, is_kl_n, isnot_kl_n, is_non_n, isnot_non_n, is_bl_bl, seq_ref0, lst_ref0, own_ref0, truth_ref0, ix_ref0, app_ref0, tuple_ref0, len_ref0, set_ref0, isSome_some, atI_last, ix3_0, ix3_1, ix3_2, at3_1, at3_2, isi_non_int, isi_non_bl, isi_non_str, isi_non_tup, isi_non_lst, isi_non_lst_tup, isi_non_bl_str, isi_bl_int, isi_bl_bl, isi_bl_str, isi_bl_tup, isi_bl_lst, isi_bl_lst_tup, isi_bl_bl_str, isi_int_int, isi_int_bl, isi_int_str, isi_int_tup, isi_int_lst, isi_int_lst_tup, isi_int_bl_str, isi_str_int, isi_str_bl, isi_str_str, isi_str_tup, isi_str_lst, isi_str_lst_tup, isi_str_bl_str, isi_tup_int, isi_tup_bl, isi_tup_str, isi_tup_tup, isi_tup_lst, isi_tup_lst_tup, isi_tup_bl_str, isi_lst_int, isi_lst_bl, isi_lst_str, isi_lst_tup, isi_lst_lst, isi_lst_lst_tup, isi_lst_bl_str, isi_kl_int, isi_kl_bl, isi_kl_str, isi_kl_tup, isi_kl_lst, isi_kl_lst_tup, isi_kl_bl_str, endD_rt, endD_nx, seq_tupD, seq_lstD, mm_int, q]
    cases decide (k ∈ line ks (j : Int)) <;> rfl, fun _ => rfl⟩) (by rw [List.length_range]; omega)]
  simp only [runB, ev_0A, ev_1A, ev_2A, ev_3A, ev_4A, ev_5A, ev_6A, ev_7A, ev_8A, ev_9A, ev_10A, ev_11A, ev_12A, ev_13A, ev_14A, ev_15A, ev_16A, ev_17A, ev_18A, ev_19A, ev_20A, ev_21A, evs_0A, evs_1A, evO_0A, evO_1A, evT_0A, evT_1A, evT_2A, evT_3A, evT_4A, evT_5A, evT_6A, evT_7A, evT_8A, evT_9A, evT_10A, evT_11A, evT_12A, evTs_0A, evTs_1A, evI_0A, evI_1A, evI_2A, evI_3A, evI_4A, evG_0A, evG_1A, evG_2A, evS_0A, evS_1A, evS_2A, evS_3A, evS_4A, evS_5A, evS_6A, evS_7A, evS_8A, evS_9A, evS_10A, bindO_ok, bindO_exn, bindO_bad, Res.bind_ok, Res.bind_exn, Res.bind_bad, Res.bindN_ok, optR_some, K0.d, EC, setN, setNs, wipeR, List.map_cons, List.map_nil, List.set_cons_zero, List.set_cons_succ, List.getElem?_cons_zero, List.getElem?_cons_succ, List.cons_append, List.nil_append, List.length_cons, List.length_nil, Option.map_some, Option.map_none, Nat.reduceAdd, Nat.reduceSub, Nat.reduceLeDiff, if_true, if_false, Bool.false_eq_true, List.replicate, evB_nil, evB_cons, seqO_nx, seqO_rt, seqO_exn, endD_exn, cmp_eq_int, cmp_ne_int, cmp_eq_bl, cmp_ne_bl, Bool.not_true, Bool.not_false, List.filterMap_cons, List.filterMap_nil, truth_bl, truth_int, truth_non, truth_tup, truth_lst, cmp_lt, cmp_le, cmp_gt, cmp_ge, cmp_in, cmp_inL, cmp_notin, ix_tup, ix_lst, ix_kl, add_int_true, sub_int_true, add_tup_true, pow_int_true, mul_tup_true, add_lst_true, sl_tup_true, sl_lst_true, sl_kl_true, len_tup_true, tuple_tup_true, list_tup_true, len_lst_true, tuple_lst_true, list_lst_true, len_kl_true, tuple_kl_true, list_kl_true, tuple_ref_true, int_int_true, int_bl_true, abs_int_true, all_lst_true, any_lst_true, sum_lst_true, max_lst_true, add_int_false, sub_int_false, add_tup_false, pow_int_false, mul_tup_false, add_lst_false, sl_tup_false, sl_lst_false, sl_kl_false, len_tup_false, tuple_tup_false, list_tup_false, len_lst_false, tuple_lst_false, list_lst_false, len_kl_false, tuple_kl_false, list_kl_false, tuple_ref_false, int_int_false, int_bl_false, abs_int_false, all_lst_false, any_lst_false, sum_lst_false, max_lst_false, newL_f, newL_t, sv_tup, sv_lst, sv_kl, se_tup, se_lst, se_kl, sz_tup, sz_lst, all_const, beq_self_eq_true, eq_self, decide_true, iD_len, in_iD, in_iDL, filter_tt, map_idd, atI_zero, blsOf_map, intsOf_map, all_map_id, cut_tail, is_int_n, isnot_int_n, is_bl_n, isnot_bl_n, is_str_n, isnot_str_n, is_tup_n, isnot_tup_n, is_lst_n, isnot_lst_n, is_kl_n, isnot_kl_n, is_non_n, isnot_non_n, is_bl_bl, seq_ref0, lst_ref0, own_ref0, truth_ref0, ix_ref0, app_ref0, tuple_ref0, len_ref0, set_ref0, isSome_some, atI_last, ix3_0, ix3_1, ix3_2, at3_1, at3_2, isi_non_int, isi_non_bl, isi_non_str, isi_non_tup, isi_non_lst, isi_non_lst_tup, isi_non_bl_str, isi_bl_int, isi_bl_bl, isi_bl_str, isi_bl_tup, isi_bl_lst, isi_bl_lst_tup, isi_bl_bl_str, isi_int_int, isi_int_bl, isi_int_str, isi_int_tup, isi_int_lst, isi_int_lst_tup, isi_int_bl_str, isi_str_int, isi_str_bl, isi_str_str, isi_str_tup, isi_str_lst, isi_str_lst_tup, isi_str_bl_str, isi_tup_int, isi_tup_bl, isi_tup_str, isi_tup_tup, isi_tup_lst, isi_tup_lst_tup, isi_tup_bl_str, isi_lst_int, isi_lst_bl, isi_lst_str, isi_lst_tup, isi_lst_lst, isi_lst_lst_tup, isi_lst_bl_str, isi_kl_int, isi_kl_bl, isi_kl_str, isi_kl_tup, isi_kl_lst, isi_kl_lst_tup, isi_kl_bl_str, endD_rt, endD_nx, seq_tupD, seq_lstD, mm_int, iD_map]
  rfl
abbrev both (ks : List Int) (a b : Int) : List Int := (line ks a).filter fun x => decide (x ∈ line ks b)
/-! ### the public ones -/
/-- kinds as they are given: a tuple or a list -/
def ksD (ks : List Int) (x : D) : Prop := x = .tup (iD ks) ∨ x = .lst (iD ks)
theorem e_sure {n : Nat} {ks : List Int} {x : D} {S : Store} (hx : ksD ks x) (h : isK ks = true) : E (n + 4) 8 [x] S = .ok (.tup (iD ks)) S := by
  have l8 := isK_len h
  rcases hx with e | e <;> subst e
  · exact e_sureT h (by omega)
  · exact e_sureL h (by omega)
theorem ksD_pure {ks : List Int} {x : D} (hx : ksD ks x) : x.pure = true := by
  rcases hx with e | e <;> subst e <;> (simp only [D.pure]; exact iD_pures ks)
theorem e_isUnderP {n : Nat} {ks : List Int} {a b : Int} {x : D} {S : Store} (hx : ksD ks x) (h : isK ks = true) (a0 : 0 ≤ a) (a1 : a < ks.length) (b0 : 0 ≤ b) (b1 : b < ks.length) : E (n + 5) 13 [x, .int a, .int b] S = .ok (.bl (decide (b ∈ line ks a))) S := by
  refine callP (fd := d13.fd) rfl rfl rfl (by simp only [D.pures, ksD_pure hx]; rfl) (S1 := []) ?_ rfl
  show runB (C (n + 4)) ⟨3, 4, true, b13⟩ _ _ = _
  have q1 : callN (tblOf tbl) (cnOf cis) 1000 (n + 4) 8 [x] [] = .ok (.tup (iD ks)) [] := e_sure hx h
  have q2 : callN (tblOf tbl) (cnOf cis) 1000 (n + 4) 9 [.tup (iD ks), .int a] [] = .ok (.int a) [] := e_sureK (n := n + 1) a0 a1
  have q3 : callN (tblOf tbl) (cnOf cis) 1000 (n + 4) 9 [.tup (iD ks), .int b] [] = .ok (.int b) [] := e_sureK (n := n + 1) b0 b1
  have q4 : callN (tblOf tbl) (cnOf cis) 1000 (n + 4) 11 [.tup (iD ks), .int a, .int b] [] = .ok (.bl (decide (b ∈ line ks a))) [] := e_isUnder (n := n + 2) h a0 a1
  simp only [b13, runB, ev_0A, ev_1A, ev_2A, ev_3A, ev_4A, ev_5A, ev_6A, ev_7A, ev_8A, ev_9A, ev_10A, ev_11A, ev_12A, ev_13A, ev_14A, ev_15A, ev_16A, ev_17A, ev_18A, ev_19A, ev_20A, ev_21A, evs_0A, evs_1A, evO_0A, evO_1A, evT_0A, evT_1A, evT_2A, evT_3A, evT_4A, evT_5A, evT_6A, evT_7A, evT_8A, evT_9A, evT_10A, evT_11A, evT_12A, evTs_0A, evTs_1A, evI_0A, evI_1A, evI_2A, evI_3A, evI_4A, evG_0A, evG_1A, evG_2A, evS_0A, evS_1A, evS_2A, evS_3A, evS_4A, evS_5A, evS_6A, evS_7A, evS_8A, evS_9A, evS_10A, bindO_ok, bindO_exn, bindO_bad, Res.bind_ok, Res.bind_exn, Res.bind_bad, Res.bindN_ok, optR_some, K0.d, EC, setN, setNs, wipeR, List.map_cons, List.map_nil, List.set_cons_zero, List.set_cons_succ, List.getElem?_cons_zero, List.getElem?_cons_succ, List.cons_append, List.nil_append, List.length_cons, List.length_nil, Option.map_some, Option.map_none, Nat.reduceAdd, Nat.reduceSub, Nat.reduceLeDiff, if_true, if_false, Bool.false_eq_true, List.replicate, evB_nil, evB_cons, seqO_nx, seqO_rt, seqO_exn, endD_exn, cmp_eq_int, cmp_ne_int, cmp_eq_bl, cmp_ne_bl, Bool.not_true, Bool.not_false, List.filterMap_cons, List.filterMap_nil, truth_bl, truth_int, truth_non, truth_tup, truth_lst, cmp_lt, cmp_le, cmp_gt, cmp_ge, cmp_in, cmp_inL, cmp_notin, ix_tup, ix_lst, ix_kl, add_int_true, sub_int_true, add_tup_true, pow_int_true, mul_tup_true, add_lst_true, sl_tup_true, sl_lst_true, sl_kl_true, len_tup_true, tuple_tup_true, list_tup_true, len_lst_true, tuple_lst_true, list_lst_true, len_kl_true, tuple_kl_true, list_kl_true, tuple_ref_true, int_int_true, int_bl_true, abs_int_true, all_lst_true, any_lst_true, sum_lst_true, max_lst_true, add_int_false, sub_int_false, add_tup_false, pow_int_false, mul_tup_false, add_lst_false, sl_tup_false, sl_lst_false, sl_kl_false, len_tup_false, tuple_tup_false, list_tup_false, len_lst_false, tuple_lst_false, list_lst_false, len_kl_false, tuple_kl_false, list_kl_false, tuple_ref_false, int_int_false, int_bl_false, abs_int_false, all_lst_false, any_lst_false, sum_lst_false, max_lst_false, newL_f, newL_t, sv_tup, sv_lst, sv_kl, se_tup, se_lst, se_kl, sz_tup, sz_lst, all_const, beq_self_eq_true, eq_self, decide_true, iD_len, in_iD, in_iDL, filter_tt, map_idd, atI_zero, blsOf_map, intsOf_map, all_map_id, cut_tail, is_int_n, isnot_int_n, is_bl_n, isnot_bl_n, is_str_n, isnot_str_n, is_tup_n, isnot_tup_n, is_lst_n, isnot_lst_n, is_kl_n, isnot_kl_n, is_non_n, isnot_non_n, is_bl_bl, seq_ref0, lst_ref0, own_ref0, truth_ref0, ix_ref0, app_ref0, tuple_ref0, len_ref0, set_ref0, isSome_some, atI_last, ix3_0, ix3_1, ix3_2, at3_1, at3_2, isi_non_int, isi_non_bl, isi_non_str, isi_non_tup, isi_non_lst, isi_non_lst_tup, isi_non_bl_str, isi_bl_int, isi_bl_bl, isi_bl_str, isi_bl_tup, isi_bl_lst, isi_bl_lst_tup, isi_bl_bl_str, isi_int_int, isi_int_bl, isi_int_str, isi_int_tup, isi_int_lst, isi_int_lst_tup, isi_int_bl_str, isi_str_int, isi_str_bl, isi_str_str, isi_str_tup, isi_str_lst, isi_str_lst_tup, isi_str_bl_str, isi_tup_int, isi_tup_bl, isi_tup_str, isi_tup_tup, isi_tup_lst, isi_tup_lst_tup, isi_tup_bl_str, isi_lst_int, isi_lst_bl, isi_lst_str, isi_lst_tup, isi_lst_lst, isi_lst_lst_tup, isi_lst_bl_str, isi_kl_int, isi_kl_bl, isi_kl_str, isi_kl_tup, isi_kl_lst, isi_kl_lst_tup, isi_kl_bl_str, endD_rt, endD_nx, seq_tupD, seq_lstD, mm_int, q1, q2, q3, q4]
theorem e_underP {n : Nat} {ks : List Int} {k : Int} {x : D} {S : Store} (hx : ksD ks x) (h : isK ks = true) (h0 : 0 ≤ k) (h1 : k < ks.length) : E (n + 5) 14 [x, .int k] S = .ok (.tup (iD (under ks k))) S := by
  refine callP (fd := d14.fd) rfl rfl rfl (by simp only [D.pures, ksD_pure hx]; rfl) (S1 := []) ?_ (by simp only [D.pure]; exact iD_pures _)
  show runB (C (n + 4)) ⟨2, 3, true, b14⟩ _ _ = _
  have q1 : callN (tblOf tbl) (cnOf cis) 1000 (n + 4) 8 [x] [] = .ok (.tup (iD ks)) [] := e_sure hx h
  have q2 : callN (tblOf tbl) (cnOf cis) 1000 (n + 4) 9 [.tup (iD ks), .int k] [] = .ok (.int k) [] := e_sureK (n := n + 1) h0 h1
  have q3 : callN (tblOf tbl) (cnOf cis) 1000 (n + 4) 12 [.tup (iD ks), .int k] [] = .ok (.tup (iD (under ks k))) [] := e_under (n := n + 1) h
  simp only [b14, runB, ev_0A, ev_1A, ev_2A, ev_3A, ev_4A, ev_5A, ev_6A, ev_7A, ev_8A, ev_9A, ev_10A, ev_11A, ev_12A, ev_13A, ev_14A, ev_15A, ev_16A, ev_17A, ev_18A, ev_19A, ev_20A, ev_21A, evs_0A, evs_1A, evO_0A, evO_1A, evT_0A, evT_1A, evT_2A, evT_3A, evT_4A, evT_5A, evT_6A, evT_7A, evT_8A, evT_9A, evT_10A, evT_11A, evT_12A, evTs_0A, evTs_1A, evI_0A, evI_1A, evI_2A, evI_3A, evI_4A, evG_0A, evG_1A, evG_2A, evS_0A, evS_1A, evS_2A, evS_3A, evS_4A, evS_5A, evS_6A, evS_7A, evS_8A, evS_9A, evS_10A, bindO_ok, bindO_exn, bindO_bad, Res.bind_ok, Res.bind_exn, Res.bind_bad, Res.bindN_ok, optR_some, K0.d, EC, setN, setNs, wipeR, List.map_cons, List.map_nil, List.set_cons_zero, List.set_cons_succ, List.getElem?_cons_zero, List.getElem?_cons_succ, List.cons_append, List.nil_append, List.length_cons, List.length_nil, Option.map_some, Option.map_none, Nat.reduceAdd, Nat.reduceSub, Nat.reduceLeDiff, if_true, if_false, Bool.false_eq_true, List.replicate, evB_nil, evB_cons, seqO_nx, seqO_rt, seqO_exn, endD_exn, cmp_eq_int, cmp_ne_int, cmp_eq_bl, cmp_ne_bl, Bool.not_true, Bool.not_false, List.filterMap_cons, List.filterMap_nil, truth_bl, truth_int, truth_non, truth_tup, truth_lst, cmp_lt, cmp_le, cmp_gt, cmp_ge, cmp_in, cmp_inL, cmp_notin, ix_tup, ix_lst, ix_kl, add_int_true, sub_int_true, add_tup_true, pow_int_true, mul_tup_true, add_lst_true, sl_tup_true, sl_lst_true, sl_kl_true, len_tup_true, tuple_tup_true, list_tup_true, len_lst_true, tuple_lst_true, list_lst_true, len_kl_true, tuple_kl_true, list_kl_true, tuple_ref_true, int_int_true, int_bl_true, abs_int_true, all_lst_true, any_lst_true, sum_lst_true, max_lst_true, add_int_false, sub_int_false, add_tup_false, pow_int_false, mul_tup_false, add_lst_false, sl_tup_false, sl_lst_false, sl_kl_false, len_tup_false, tuple_tup_false, list_tup_false, len_lst_false, tuple_lst_false, list_lst_false, len_kl_false, tuple_kl_false, list_kl_false, tuple_ref_false, int_int_false, int_bl_false, abs_int_false, all_lst_false, any_lst_false, sum_lst_false, max_lst_false, newL_f, newL_t, sv_tup, sv_lst, sv_kl, se_tup, se_lst, se_kl, sz_tup, sz_lst, all_const, beq_self_eq_true, eq_self, decide_true, iD_len, in_iD, in_iDL, filter_tt, map_idd, atI_zero, blsOf_map, intsOf_map, all_map_id, cut_tail, is_int_n, isnot_int_n, is_bl_n, isnot_bl_n, is_str_n, isnot_str_n, is_tup_n, isnot_tup_n, is_lst_n, isnot_lst_n, is_kl_n, isnot_kl_n, is_non_n, isnot_non_n, is_bl_bl, seq_ref0, lst_ref0, own_ref0, truth_ref0, ix_ref0, app_ref0, tuple_ref0, len_ref0, set_ref0, isSome_some, atI_last, ix3_0, ix3_1, ix3_2, at3_1, at3_2, isi_non_int, isi_non_bl, isi_non_str, isi_non_tup, isi_non_lst, isi_non_lst_tup, isi_non_bl_str, isi_bl_int, isi_bl_bl, isi_bl_str, isi_bl_tup, isi_bl_lst, isi_bl_lst_tup, isi_bl_bl_str, isi_int_int, isi_int_bl, isi_int_str, isi_int_tup, isi_int_lst, isi_int_lst_tup, isi_int_bl_str, isi_str_int, isi_str_bl, isi_str_str, isi_str_tup, isi_str_lst, isi_str_lst_tup, isi_str_bl_str, isi_tup_int, isi_tup_bl, isi_tup_str, isi_tup_tup, isi_tup_lst, isi_tup_lst_tup, isi_tup_bl_str, isi_lst_int, isi_lst_bl, isi_lst_str, isi_lst_tup, isi_lst_lst, isi_lst_lst_tup, isi_lst_bl_str, isi_kl_int, isi_kl_bl, isi_kl_str, isi_kl_tup, isi_kl_lst, isi_kl_lst_tup, isi_kl_bl_str, endD_rt, endD_nx, seq_tupD, seq_lstD, mm_int, q1, q2, q3]
/-! ### the law's own: lists, sameness -/
theorem e_lists1 {n : Nat} {x : D} {S : Store} (h : flat x = true) : E (n + 1) 25 [x] S = .ok x S := by
  cases x <;> first | rfl | cases h
theorem e_lists {n : Nat} {xs : List D} {S : Store} (h : xs.all flat = true) (hl : xs.length < 1000) : E (n + 2) 25 [.tup xs] S = .ok (.lst xs) S := by
  have hf : ∀ x ∈ xs, flat x = true := fun x hx => List.all_eq_true.mp h x hx
  refine callP (fd := d25.fd) rfl rfl rfl (by simp only [D.pures, D.pure, Bool.and_true]; exact flats_pures h) (S1 := []) ?_ (by simp only [D.pure]; exact flats_pures h)
  show runB (C (n + 1)) ⟨1, 2, true, b25⟩ _ _ = _
  simp only [b25, runB, ev_0A, ev_1A, ev_2A, ev_3A, ev_4A, ev_5A, ev_6A, ev_7A, ev_8A, ev_9A, ev_10A, ev_11A, ev_12A, ev_13A, ev_14A, ev_15A, ev_16A, ev_17A, ev_18A, ev_19A, ev_20A, ev_21A, evs_0A, evs_1A, evO_0A, evO_1A, evT_0A, evT_1A, evT_2A, evT_3A, evT_4A, evT_5A, evT_6A, evT_7A, evT_8A, evT_9A, evT_10A, evT_11A, evT_12A, evTs_0A, evTs_1A, evI_0A, evI_1A, evI_2A, evI_3A, evI_4A, evG_0A, evG_1A, evG_2A, evS_0A, evS_1A, evS_2A, evS_3A, evS_4A, evS_5A, evS_6A, evS_7A, evS_8A, evS_9A, evS_10A, bindO_ok, bindO_exn, bindO_bad, Res.bind_ok, Res.bind_exn, Res.bind_bad, Res.bindN_ok, optR_some, K0.d, EC, setN, setNs, wipeR, List.map_cons, List.map_nil, List.set_cons_zero, List.set_cons_succ, List.getElem?_cons_zero, List.getElem?_cons_succ, List.cons_append, List.nil_append, List.length_cons, List.length_nil, Option.map_some, Option.map_none, Nat.reduceAdd, Nat.reduceSub, Nat.reduceLeDiff, if_true, if_false, Bool.false_eq_true, List.replicate, evB_nil, evB_cons, seqO_nx, seqO_rt, seqO_exn, endD_exn, cmp_eq_int, cmp_ne_int, cmp_eq_bl, cmp_ne_bl, Bool.not_true, Bool.not_false, List.filterMap_cons, List.filterMap_nil, truth_bl, truth_int, truth_non, truth_tup, truth_lst, cmp_lt, cmp_le, cmp_gt, cmp_ge, cmp_in, cmp_inL, cmp_notin, ix_tup, ix_lst, ix_kl, add_int_true, sub_int_true, add_tup_true, pow_int_true, mul_tup_true, add_lst_true, sl_tup_true, sl_lst_true, sl_kl_true, len_tup_true, tuple_tup_true, list_tup_true, len_lst_true, tuple_lst_true, list_lst_true, len_kl_true, tuple_kl_true, list_kl_true, tuple_ref_true, int_int_true, int_bl_true, abs_int_true, all_lst_true, any_lst_true, sum_lst_true, max_lst_true, add_int_false, sub_int_false, add_tup_false, pow_int_false, mul_tup_false, add_lst_false, sl_tup_false, sl_lst_false, sl_kl_false, len_tup_false, tuple_tup_false, list_tup_false, len_lst_false, tuple_lst_false, list_lst_false, len_kl_false, tuple_kl_false, list_kl_false, tuple_ref_false, int_int_false, int_bl_false, abs_int_false, all_lst_false, any_lst_false, sum_lst_false, max_lst_false, newL_f, newL_t, sv_tup, sv_lst, sv_kl, se_tup, se_lst, se_kl, sz_tup, sz_lst, all_const, beq_self_eq_true, eq_self, decide_true, iD_len, in_iD, in_iDL, filter_tt, map_idd, atI_zero, blsOf_map, intsOf_map, all_map_id, cut_tail, is_int_n, isnot_int_n, is_bl_n, isnot_bl_n, is_str_n, isnot_str_n, is_tup_n, isnot_tup_n, is_lst_n, isnot_lst_n, is_kl_n, isnot_kl_n, is_non_n, isnot_non_n, is_bl_bl, seq_ref0, lst_ref0, own_ref0, truth_ref0, ix_ref0, app_ref0, tuple_ref0, len_ref0, set_ref0, isSome_some, atI_last, ix3_0, ix3_1, ix3_2, at3_1, at3_2, isi_non_int, isi_non_bl, isi_non_str, isi_non_tup, isi_non_lst, isi_non_lst_tup, isi_non_bl_str, isi_bl_int, isi_bl_bl, isi_bl_str, isi_bl_tup, isi_bl_lst, isi_bl_lst_tup, isi_bl_bl_str, isi_int_int, isi_int_bl, isi_int_str, isi_int_tup, isi_int_lst, isi_int_lst_tup, isi_int_bl_str, isi_str_int, isi_str_bl, isi_str_str, isi_str_tup, isi_str_lst, isi_str_lst_tup, isi_str_bl_str, isi_tup_int, isi_tup_bl, isi_tup_str, isi_tup_tup, isi_tup_lst, isi_tup_lst_tup, isi_tup_bl_str, isi_lst_int, isi_lst_bl, isi_lst_str, isi_lst_tup, isi_lst_lst, isi_lst_lst_tup, isi_lst_bl_str, isi_kl_int, isi_kl_bl, isi_kl_str, isi_kl_tup, isi_kl_lst, isi_kl_lst_tup, isi_kl_bl_str, endD_rt, endD_nx, seq_tupD, seq_lstD, mm_int]
  rw [lc_pure xs (fun _ => true) (fun x => x) (fun x => [some (.tup xs), some x]) (fun i => rfl) (fun x hx => ⟨rfl, rfl, fun _ => by
    have q : callN (tblOf tbl) (cnOf cis) 1000 (n + 1) 25 [x] [] = .ok x [] := e_lists1 (hf x hx)
    simp only [runB, ev_0A, ev_1A, ev_2A, ev_3A, ev_4A, ev_5A, ev_6A, ev_7A, ev_8A, ev_9A, ev_10A, ev_11A, ev_12A, ev_13A, ev_14A, ev_15A, ev_16A, ev_17A, ev_18A, ev_19A, ev_20A, ev_21A, evs_0A, evs_1A, evO_0A, evO_1A, evT_0A, evT_1A, evT_2A, evT_3A, evT_4A, evT_5A, evT_6A, evT_7A, evT_8A, evT_9A, evT_10A, evT_11A, evT_12A, evTs_0A, evTs_1A, evI_0A, evI_1A, evI_2A, evI_3A, evI_4A, evG_0A, evG_1A, evG_2A, evS_0A, evS_1A, evS_2A, evS_3A, evS_4A, evS_5A, evS_6A, evS_7A, evS_8A, evS_9A, evS_10A, bindO_ok, bindO_exn, bindO_bad, Res.bind_ok, Res.bind_exn, Res.bind_bad, Res.bindN_ok, optR_some, K0.d, EC, setN, setNs, wipeR, List.map_cons, List.map_nil, List.set_cons_zero, List.set_cons_succ, List.getElem?_cons_zero, List.getElem?_cons_succ, List.cons_append, List.nil_append, List.length_cons, List.length_nil, Option.map_some, Option.map_none, Nat.reduceAdd, Nat.reduceSub, Nat.reduceLeDiff, if_true, if_false, Bool.false_eq_true, List.replicate, evB_nil, evB_cons, seqO_nx, seqO_rt, seqO_exn, endD_exn, cmp_eq_int, cmp_ne_int, cmp_eq_bl, cmp_ne_bl, Bool.not_true, Bool.not_false, List.filterMap_cons, List.filterMap_nil, truth_bl, truth_int, truth_non, truth_tup, truth_lst, cmp_lt, cmp_le, cmp_gt, cmp_ge, cmp_in, cmp_inL, cmp_notin, ix_tup, ix_lst, ix_kl, add_int_true, sub_int_true, add_tup_true, pow_int_true, mul_tup_true, add_lst_true, sl_tup_true, sl_lst_true, sl_kl_true, len_tup_true, tuple_tup_true, list_tup_true, len_lst_true, tuple_lst_true, list_lst_true, len_kl_true, tuple_kl_true, list_kl_true, tuple_ref_true, int_int_true, int_bl_true, abs_int_true, all_lst_true, any_lst_true, sum_lst_true, max_lst_true, add_int_false, sub_int_false, add_tup_false, pow_int_false, mul_tup_false, add_lst_false, sl_tup_false, sl_lst_false, sl_kl_false, len_tup_false, tuple_tup_false, list_tup_false, len_lst_false, tuple_lst_false, list_lst_false, len_kl_false, tuple_kl_false, list_kl_false, tuple_ref_false, int_int_false, int_bl_false, abs_int_false, all_lst_false, any_lst_false, sum_lst_false, max_lst_false, newL_f, newL_t, sv_tup, sv_lst, sv_kl, se_tup, se_lst, se_kl, sz_tup, sz_lst, all_const, beq_self_eq_true, eq_self, decide_true, iD_len, in_iD, in_iDL, filter_tt, map_idd, atI_zero, blsOf_map, intsOf_map, all_map_id, cut_tail, is_int_n, isnot_int_n, is_bl_n, isnot_bl_n, is_str_n, isnot_str_n, is_tup_n, isnot_tup_n, is_lst_n, isnot_lst_n, is_kl_n, isnot_kl_n, is_non_n, isnot_non_n, is_bl_bl, seq_ref0, lst_ref0, own_ref0, truth_ref0, ix_ref0, app_ref0, tuple_ref0, len_ref0, set_ref0, isSome_some, atI_last, ix3_0, ix3_1, ix3_2, at3_1, at3_2, isi_non_int, isi_non_bl, isi_non_str, isi_non_tup, isi_non_lst, isi_non_lst_tup, isi_non_bl_str, isi_bl_int, isi_bl_bl, isi_bl_str, isi_bl_tup, isi_bl_lst, isi_bl_lst_tup, isi_bl_bl_str, isi_int_int, isi_int_bl, isi_int_str, isi_int_tup, isi_int_lst, isi_int_lst_tup, isi_int_bl_str, isi_str_int, isi_str_bl, isi_str_str, isi_str_tup, isi_str_lst, isi_str_lst_tup, isi_str_bl_str, isi_tup_int, isi_tup_bl, isi_tup_str, isi_tup_tup, isi_tup_lst, isi_tup_lst_tup, isi_tup_bl_str, isi_lst_int, isi_lst_bl, isi_lst_str, isi_lst_tup, isi_lst_lst, isi_lst_lst_tup, isi_lst_bl_str, isi_kl_int, isi_kl_bl, isi_kl_str, isi_kl_tup, isi_kl_lst, isi_kl_lst_tup, isi_kl_bl_str, endD_rt, endD_nx, seq_tupD, seq_lstD, mm_int, q]⟩) hl]
  simp only [runB, ev_0A, ev_1A, ev_2A, ev_3A, ev_4A, ev_5A, ev_6A, ev_7A, ev_8A, ev_9A, ev_10A, ev_11A, ev_12A, ev_13A, ev_14A, ev_15A, ev_16A, ev_17A, ev_18A, ev_19A, ev_20A, ev_21A, evs_0A, evs_1A, evO_0A, evO_1A, evT_0A, evT_1A, evT_2A, evT_3A, evT_4A, evT_5A, evT_6A, evT_7A, evT_8A, evT_9A, evT_10A, evT_11A, evT_12A, evTs_0A, evTs_1A, evI_0A, evI_1A, evI_2A, evI_3A, evI_4A, evG_0A, evG_1A, evG_2A, evS_0A, evS_1A, evS_2A, evS_3A, evS_4A, evS_5A, evS_6A, evS_7A, evS_8A, evS_9A, evS_10A, bindO_ok, bindO_exn, bindO_bad, Res.bind_ok, Res.bind_exn, Res.bind_bad, Res.bindN_ok, optR_some, K0.d, EC, setN, setNs, wipeR, List.map_cons, List.map_nil, List.set_cons_zero, List.set_cons_succ, List.getElem?_cons_zero, List.getElem?_cons_succ, List.cons_append, List.nil_append, List.length_cons, List.length_nil, Option.map_some, Option.map_none, Nat.reduceAdd, Nat.reduceSub, Nat.reduceLeDiff, if_true, if_false, Bool.false_eq_true, List.replicate, evB_nil, evB_cons, seqO_nx, seqO_rt, seqO_exn, endD_exn, cmp_eq_int, cmp_ne_int, cmp_eq_bl, cmp_ne_bl, Bool.not_true, Bool.not_false, List.filterMap_cons, List.filterMap_nil, truth_bl, truth_int, truth_non, truth_tup, truth_lst, cmp_lt, cmp_le, cmp_gt, cmp_ge, cmp_in, cmp_inL, cmp_notin, ix_tup, ix_lst, ix_kl, add_int_true, sub_int_true, add_tup_true, pow_int_true, mul_tup_true, add_lst_true, sl_tup_true, sl_lst_true, sl_kl_true, len_tup_true, tuple_tup_true, list_tup_true, len_lst_true, tuple_lst_true, list_lst_true, len_kl_true, tuple_kl_true, list_kl_true, tuple_ref_true, int_int_true, int_bl_true, abs_int_true, all_lst_true, any_lst_true, sum_lst_true, max_lst_true, add_int_false, sub_int_false, add_tup_false, pow_int_false, mul_tup_false, add_lst_false, sl_tup_false, sl_lst_false, sl_kl_false, len_tup_false, tuple_tup_false, list_tup_false, len_lst_false, tuple_lst_false, list_lst_false, len_kl_false, tuple_kl_false, list_kl_false, tuple_ref_false, int_int_false, int_bl_false, abs_int_false, all_lst_false, any_lst_false, sum_lst_false, max_lst_false, newL_f, newL_t, sv_tup, sv_lst, sv_kl, se_tup, se_lst, se_kl, sz_tup, sz_lst, all_const, beq_self_eq_true, eq_self, decide_true, iD_len, in_iD, in_iDL, filter_tt, map_idd, atI_zero, blsOf_map, intsOf_map, all_map_id, cut_tail, is_int_n, isnot_int_n, is_bl_n, isnot_bl_n, is_str_n, isnot_str_n, is_tup_n, isnot_tup_n, is_lst_n, isnot_lst_n, is_kl_n, isnot_kl_n, is_non_n, isnot_non_n, is_bl_bl, seq_ref0, lst_ref0, own_ref0, truth_ref0, ix_ref0, app_ref0, tuple_ref0, len_ref0, set_ref0, isSome_some, atI_last, ix3_0, ix3_1, ix3_2, at3_1, at3_2, isi_non_int, isi_non_bl, isi_non_str, isi_non_tup, isi_non_lst, isi_non_lst_tup, isi_non_bl_str, isi_bl_int, isi_bl_bl, isi_bl_str, isi_bl_tup, isi_bl_lst, isi_bl_lst_tup, isi_bl_bl_str, isi_int_int, isi_int_bl, isi_int_str, isi_int_tup, isi_int_lst, isi_int_lst_tup, isi_int_bl_str, isi_str_int, isi_str_bl, isi_str_str, isi_str_tup, isi_str_lst, isi_str_lst_tup, isi_str_bl_str, isi_tup_int, isi_tup_bl, isi_tup_str, isi_tup_tup, isi_tup_lst, isi_tup_lst_tup, isi_tup_bl_str, isi_lst_int, isi_lst_bl, isi_lst_str, isi_lst_tup, isi_lst_lst, isi_lst_lst_tup, isi_lst_bl_str, isi_kl_int, isi_kl_bl, isi_kl_str, isi_kl_tup, isi_kl_lst, isi_kl_lst_tup, isi_kl_bl_str, endD_rt, endD_nx, seq_tupD, seq_lstD, mm_int]
def okS : Nat → D → Bool
  | _, .int _ => true
  | _, .bl _ => true
  | _, .non => true
  | m + 1, .tup xs => decide (xs.length < 1000) && xs.all (okS m)
  | m + 1, .lst xs => decide (xs.length < 1000) && xs.all (okS m)
  | _, _ => false
theorem okS_pure : ∀ (m : Nat) (x : D), okS m x = true → x.pure = true
  | _, .int _, _ => rfl
  | _, .bl _, _ => rfl
  | _, .non, _ => rfl
  | m + 1, .tup xs, h => by
    simp only [okS, Bool.and_eq_true, List.all_eq_true] at h
    simp only [D.pure]
    exact pures_iff.mpr fun x hx => okS_pure m x (h.2 x hx)
  | m + 1, .lst xs, h => by
    simp only [okS, Bool.and_eq_true, List.all_eq_true] at h
    simp only [D.pure]
    exact pures_iff.mpr fun x hx => okS_pure m x (h.2 x hx)
  | 0, .tup _, h => by cases h
  | 0, .lst _, h => by cases h
  | 0, .str _, h => by cases h
  | 0, .kl _, h => by cases h
  | 0, .ref _, h => by cases h
  | 0, .fn _, h => by cases h
  | _ + 1, .str _, h => by cases h
  | _ + 1, .kl _, h => by cases h
  | _ + 1, .ref _, h => by cases h
  | _ + 1, .fn _, h => by cases h
theorem at_zip2 {xs : List D} {S : Store} (i : Nat) : (Src.zip xs xs).at i S = some ((xs[i]?).map fun x => .tup [x, x]) := by
  show (match xs[i]?, xs[i]? with
    | some x, some y => some (some (D.tup [x, y]))
    | _, _ => some none) = _
  cases xs[i]? <;> rfl
theorem all_tt {α : Type} {l : List α} : (blsOf (l.map fun _ => D.bl true)) = some (l.map fun _ => true) := blsOf_map (fun _ => true) l
theorem all_t {α : Type} {l : List α} : (l.map fun _ => true).all id = true := by
  induction l with
  | nil => rfl
  | cons x l ih => simpa using ih
theorem e_same : ∀ (m n : Nat) (x : D) (S : Store), okS m x = true → E (m + n + 1) 26 [x, x] S = .ok (.bl true) S := by
  intro m
  induction m with
  | zero =>
    intro n x S h
    have hp := okS_pure 0 x h
    refine callP (fd := d26.fd) rfl rfl rfl (by simp only [D.pures, hp]; rfl) (S1 := []) ?_ rfl
    show runB (C (0 + n)) ⟨2, 4, true, b26⟩ _ _ = _
    cases x <;> first
      | (cases h; done)
      | simp only [b26, runB, ev_0A, ev_1A, ev_2A, ev_3A, ev_4A, ev_5A, ev_6A, ev_7A, ev_8A, ev_9A, ev_10A, ev_11A, ev_12A, ev_13A, ev_14A, ev_15A, ev_16A, ev_17A, ev_18A, ev_19A, ev_20A, ev_21A, evs_0A, evs_1A, evO_0A, evO_1A, evT_0A, evT_1A, evT_2A, evT_3A, evT_4A, evT_5A, evT_6A, evT_7A, evT_8A, evT_9A, evT_10A, evT_11A, evT_12A, evTs_0A, evTs_1A, evI_0A, evI_1A, evI_2A, evI_3A, evI_4A, evG_0A, evG_1A, evG_2A, evS_0A, evS_1A, evS_2A, evS_3A, evS_4A, evS_5A, evS_6A, evS_7A, evS_8A, evS_9A, evS_10A, bindO_ok, bindO_exn, bindO_bad, Res.bind_ok, Res.bind_exn, Res.bind_bad, Res.bindN_ok, optR_some, K0.d, EC, setN, setNs, wipeR, List.map_cons, List.map_nil, List.set_cons_zero, List.set_cons_succ, List.getElem?_cons_zero, List.getElem?_cons_succ, List.cons_append, List.nil_append, List.length_cons, List.length_nil, Option.map_some, Option.map_none, Nat.reduceAdd, Nat.reduceSub, Nat.reduceLeDiff, if_true, if_false, Bool.false_eq_true, List.replicate, evB_nil, evB_cons, seqO_nx, seqO_rt, seqO_exn, endD_exn, cmp_eq_int, cmp_ne_int, cmp_eq_bl, cmp_ne_bl, Bool.not_true, Bool.not_false, List.filterMap_cons, List.filterMap_nil, truth_bl, truth_int, truth_non, truth_tup, truth_lst, cmp_lt, cmp_le, cmp_gt, cmp_ge, cmp_in, cmp_inL, cmp_notin, ix_tup, ix_lst, ix_kl, add_int_true, sub_int_true, add_tup_true, pow_int_true, mul_tup_true, add_lst_true, sl_tup_true, sl_lst_true, sl_kl_true, len_tup_true, tuple_tup_true, list_tup_true, len_lst_true, tuple_lst_true, list_lst_true, len_kl_true, tuple_kl_true, list_kl_true, tuple_ref_true, int_int_true, int_bl_true, abs_int_true, all_lst_true, any_lst_true, sum_lst_true, max_lst_true, add_int_false, sub_int_false, add_tup_false, pow_int_false, mul_tup_false, add_lst_false, sl_tup_false, sl_lst_false, sl_kl_false, len_tup_false, tuple_tup_false, list_tup_false, len_lst_false, tuple_lst_false, list_lst_false, len_kl_false, tuple_kl_false, list_kl_false, tuple_ref_false, int_int_false, int_bl_false, abs_int_false, all_lst_false, any_lst_false, sum_lst_false, max_lst_false, newL_f, newL_t, sv_tup, sv_lst, sv_kl, se_tup, se_lst, se_kl, sz_tup, sz_lst, all_const, beq_self_eq_true, eq_self, decide_true, iD_len, in_iD, in_iDL, filter_tt, map_idd, atI_zero, blsOf_map, intsOf_map, all_map_id, cut_tail, is_int_n, isnot_int_n, is_bl_n, isnot_bl_n, is_str_n, isnot_str_n, is_tup_n, isnot_tup_n, is_lst_n, isnot_lst_n, is_kl_n, isnot_kl_n, is_non_n, isnot_non_n, is_bl_bl, seq_ref0, lst_ref0, own_ref0, truth_ref0, ix_ref0, app_ref0, tuple_ref0, len_ref0, set_ref0, isSome_some, atI_last, ix3_0, ix3_1, ix3_2, at3_1, at3_2, isi_non_int, isi_non_bl, isi_non_str, isi_non_tup, isi_non_lst, isi_non_lst_tup, isi_non_bl_str, isi_bl_int, isi_bl_bl, isi_bl_str, isi_bl_tup, isi_bl_lst, isi_bl_lst_tup, isi_bl_bl_str, isi_int_int, isi_int_bl, isi_int_str, isi_int_tup, isi_int_lst, isi_int_lst_tup, isi_int_bl_str, isi_str_int, isi_str_bl, isi_str_str, isi_str_tup, isi_str_lst, isi_str_lst_tup, isi_str_bl_str, isi_tup_int, isi_tup_bl, isi_tup_str, isi_tup_tup, isi_tup_lst, isi_tup_lst_tup, isi_tup_bl_str, isi_lst_int, isi_lst_bl, isi_lst_str, isi_lst_tup, isi_lst_lst, isi_lst_lst_tup, isi_lst_bl_str, isi_kl_int, isi_kl_bl, isi_kl_str, isi_kl_tup, isi_kl_lst, isi_kl_lst_tup, isi_kl_bl_str, endD_rt, endD_nx, seq_tupD, seq_lstD, mm_int]
  | succ m ih =>
    intro n x S h
    have hp := okS_pure (m + 1) x h
    refine callP (fd := d26.fd) rfl rfl rfl (by simp only [D.pures, hp]; rfl) (S1 := []) ?_ rfl
    show runB (C (m + 1 + n)) ⟨2, 4, true, b26⟩ _ _ = _
    have step : ∀ y : D, okS m y = true → callN (tblOf tbl) (cnOf cis) 1000 (m + 1 + n) 26 [y, y] [] = .ok (.bl true) [] := fun y hy => by
      have := ih n y [] hy
      rw [show m + 1 + n = m + n + 1 by omega]
      exact this
    cases x with
    | tup xs =>
      simp only [okS, Bool.and_eq_true, decide_eq_true_eq, List.all_eq_true] at h
      simp only [b26, runB, ev_0A, ev_1A, ev_2A, ev_3A, ev_4A, ev_5A, ev_6A, ev_7A, ev_8A, ev_9A, ev_10A, ev_11A, ev_12A, ev_13A, ev_14A, ev_15A, ev_16A, ev_17A, ev_18A, ev_19A, ev_20A, ev_21A, evs_0A, evs_1A, evO_0A, evO_1A, evT_0A, evT_1A, evT_2A, evT_3A, evT_4A, evT_5A, evT_6A, evT_7A, evT_8A, evT_9A, evT_10A, evT_11A, evT_12A, evTs_0A, evTs_1A, evI_0A, evI_1A, evI_2A, evI_3A, evI_4A, evG_0A, evG_1A, evG_2A, evS_0A, evS_1A, evS_2A, evS_3A, evS_4A, evS_5A, evS_6A, evS_7A, evS_8A, evS_9A, evS_10A, bindO_ok, bindO_exn, bindO_bad, Res.bind_ok, Res.bind_exn, Res.bind_bad, Res.bindN_ok, optR_some, K0.d, EC, setN, setNs, wipeR, List.map_cons, List.map_nil, List.set_cons_zero, List.set_cons_succ, List.getElem?_cons_zero, List.getElem?_cons_succ, List.cons_append, List.nil_append, List.length_cons, List.length_nil, Option.map_some, Option.map_none, Nat.reduceAdd, Nat.reduceSub, Nat.reduceLeDiff, if_true, if_false, Bool.false_eq_true, List.replicate, evB_nil, evB_cons, seqO_nx, seqO_rt, seqO_exn, endD_exn, cmp_eq_int, cmp_ne_int, cmp_eq_bl, cmp_ne_bl, Bool.not_true, Bool.not_false, List.filterMap_cons, List.filterMap_nil, truth_bl, truth_int, truth_non, truth_tup, truth_lst, cmp_lt, cmp_le, cmp_gt, cmp_ge, cmp_in, cmp_inL, cmp_notin, ix_tup, ix_lst, ix_kl, add_int_true, sub_int_true, add_tup_true, pow_int_true, mul_tup_true, add_lst_true, sl_tup_true, sl_lst_true, sl_kl_true, len_tup_true, tuple_tup_true, list_tup_true, len_lst_true, tuple_lst_true, list_lst_true, len_kl_true, tuple_kl_true, list_kl_true, tuple_ref_true, int_int_true, int_bl_true, abs_int_true, all_lst_true, any_lst_true, sum_lst_true, max_lst_true, add_int_false, sub_int_false, add_tup_false, pow_int_false, mul_tup_false, add_lst_false, sl_tup_false, sl_lst_false, sl_kl_false, len_tup_false, tuple_tup_false, list_tup_false, len_lst_false, tuple_lst_false, list_lst_false, len_kl_false, tuple_kl_false, list_kl_false, tuple_ref_false, int_int_false, int_bl_false, abs_int_false, all_lst_false, any_lst_false, sum_lst_false, max_lst_false, newL_f, newL_t, sv_tup, sv_lst, sv_kl, se_tup, se_lst, se_kl, sz_tup, sz_lst, all_const, beq_self_eq_true, eq_self, decide_true, iD_len, in_iD, in_iDL, filter_tt, map_idd, atI_zero, blsOf_map, intsOf_map, all_map_id, cut_tail, is_int_n, isnot_int_n, is_bl_n, isnot_bl_n, is_str_n, isnot_str_n, is_tup_n, isnot_tup_n, is_lst_n, isnot_lst_n, is_kl_n, isnot_kl_n, is_non_n, isnot_non_n, is_bl_bl, seq_ref0, lst_ref0, own_ref0, truth_ref0, ix_ref0, app_ref0, tuple_ref0, len_ref0, set_ref0, isSome_some, atI_last, ix3_0, ix3_1, ix3_2, at3_1, at3_2, isi_non_int, isi_non_bl, isi_non_str, isi_non_tup, isi_non_lst, isi_non_lst_tup, isi_non_bl_str, isi_bl_int, isi_bl_bl, isi_bl_str, isi_bl_tup, isi_bl_lst, isi_bl_lst_tup, isi_bl_bl_str, isi_int_int, isi_int_bl, isi_int_str, isi_int_tup, isi_int_lst, isi_int_lst_tup, isi_int_bl_str, isi_str_int, isi_str_bl, isi_str_str, isi_str_tup, isi_str_lst, isi_str_lst_tup, isi_str_bl_str, isi_tup_int, isi_tup_bl, isi_tup_str, isi_tup_tup, isi_tup_lst, isi_tup_lst_tup, isi_tup_bl_str, isi_lst_int, isi_lst_bl, isi_lst_str, isi_lst_tup, isi_lst_lst, isi_lst_lst_tup, isi_lst_bl_str, isi_kl_int, isi_kl_bl, isi_kl_str, isi_kl_tup, isi_kl_lst, isi_kl_lst_tup, isi_kl_bl_str, endD_rt, endD_nx, seq_tupD, seq_lstD, mm_int]
      rw [lc_pureA xs (fun x => .tup [x, x]) (fun _ => true) (fun _ => .bl true) (fun x => [some (.tup xs), some (.tup xs), some x, some x]) (fun i => at_zip2 i) (fun x hx => ⟨rfl, rfl, fun _ => by
        simp only [runB, ev_0A, ev_1A, ev_2A, ev_3A, ev_4A, ev_5A, ev_6A, ev_7A, ev_8A, ev_9A, ev_10A, ev_11A, ev_12A, ev_13A, ev_14A, ev_15A, ev_16A, ev_17A, ev_18A, ev_19A, ev_20A, ev_21A, evs_0A, evs_1A, evO_0A, evO_1A, evT_0A, evT_1A, evT_2A, evT_3A, evT_4A, evT_5A, evT_6A, evT_7A, evT_8A, evT_9A, evT_10A, evT_11A, evT_12A, evTs_0A, evTs_1A, evI_0A, evI_1A, evI_2A, evI_3A, evI_4A, evG_0A, evG_1A, evG_2A, evS_0A, evS_1A, evS_2A, evS_3A, evS_4A, evS_5A, evS_6A, evS_7A, evS_8A, evS_9A, evS_10A, bindO_ok, bindO_exn, bindO_bad, Res.bind_ok, Res.bind_exn, Res.bind_bad, Res.bindN_ok, optR_some, K0.d, EC, setN, setNs, wipeR, List.map_cons, List.map_nil, List.set_cons_zero, List.set_cons_succ, List.getElem?_cons_zero, List.getElem?_cons_succ, List.cons_append, List.nil_append, List.length_cons, List.length_nil, Option.map_some, Option.map_none, Nat.reduceAdd, Nat.reduceSub, Nat.reduceLeDiff, if_true, if_false, Bool.false_eq_true, List.replicate, evB_nil, evB_cons, seqO_nx, seqO_rt, seqO_exn, endD_exn, cmp_eq_int, cmp_ne_int, cmp_eq_bl, cmp_ne_bl, Bool.not_true, Bool.not_false, List.filterMap_cons, List.filterMap_nil, truth_bl, truth_int, truth_non, truth_tup, truth_lst, cmp_lt, cmp_le, cmp_gt, cmp_ge, cmp_in, cmp_inL, cmp_notin, ix_tup, ix_lst, ix_kl, add_int_true, sub_int_true, add_tup_true, pow_int_true, mul_tup_true, add_lst_true, sl_tup_true, sl_lst_true, sl_kl_true, len_tup_true, tuple_tup_true, list_tup_true, len_lst_true, tuple_lst_true, list_lst_true, len_kl_true, tuple_kl_true, list_kl_true, tuple_ref_true, int_int_true, int_bl_true, abs_int_true, all_lst_true, any_lst_true, sum_lst_true, max_lst_true, add_int_false, sub_int_false, add_tup_false, pow_int_false, mul_tup_false, add_lst_false, sl_tup_false, sl_lst_false, sl_kl_false, len_tup_false, tuple_tup_false, list_tup_false, len_lst_false, tuple_lst_false, list_lst_false, len_kl_false, tuple_kl_false, list_kl_false, tuple_ref_false, int_int_false, int_bl_false, abs_int_false, all_lst_false, any_lst_false, sum_lst_false, max_lst_false, newL_f, newL_t, sv_tup, sv_lst, sv_kl, se_tup, se_lst, se_kl, sz_tup, sz_lst, all_const, beq_self_eq_true, eq_self, decide_true, iD_len, in_iD, in_iDL, filter_tt, map_idd, atI_zero, blsOf_map, intsOf_map, all_map_id, cut_tail, is_int_n, isnot_int_n, is_bl_n, isnot_bl_n, is_str_n, isnot_str_n, is_tup_n, isnot_tup_n, is_lst_n, isnot_lst_n, is_kl_n, isnot_kl_n, is_non_n, isnot_non_n, is_bl_bl, seq_ref0, lst_ref0, own_ref0, truth_ref0, ix_ref0, app_ref0, tuple_ref0, len_ref0, set_ref0, isSome_some, atI_last, ix3_0, ix3_1, ix3_2, at3_1, at3_2, isi_non_int, isi_non_bl, isi_non_str, isi_non_tup, isi_non_lst, isi_non_lst_tup, isi_non_bl_str, isi_bl_int, isi_bl_bl, isi_bl_str, isi_bl_tup, isi_bl_lst, isi_bl_lst_tup, isi_bl_bl_str, isi_int_int, isi_int_bl, isi_int_str, isi_int_tup, isi_int_lst, isi_int_lst_tup, isi_int_bl_str, isi_str_int, isi_str_bl, isi_str_str, isi_str_tup, isi_str_lst, isi_str_lst_tup, isi_str_bl_str, isi_tup_int, isi_tup_bl, isi_tup_str, isi_tup_tup, isi_tup_lst, isi_tup_lst_tup, isi_tup_bl_str, isi_lst_int, isi_lst_bl, isi_lst_str, isi_lst_tup, isi_lst_lst, isi_lst_lst_tup, isi_lst_bl_str, isi_kl_int, isi_kl_bl, isi_kl_str, isi_kl_tup, isi_kl_lst, isi_kl_lst_tup, isi_kl_bl_str, endD_rt, endD_nx, seq_tupD, seq_lstD, mm_int, step x (h.2 x hx)]⟩) h.1]
      simp only [runB, ev_0A, ev_1A, ev_2A, ev_3A, ev_4A, ev_5A, ev_6A, ev_7A, ev_8A, ev_9A, ev_10A, ev_11A, ev_12A, ev_13A, ev_14A, ev_15A, ev_16A, ev_17A, ev_18A, ev_19A, ev_20A, ev_21A, evs_0A, evs_1A, evO_0A, evO_1A, evT_0A, evT_1A, evT_2A, evT_3A, evT_4A, evT_5A, evT_6A, evT_7A, evT_8A, evT_9A, evT_10A, evT_11A, evT_12A, evTs_0A, evTs_1A, evI_0A, evI_1A, evI_2A, evI_3A, evI_4A, evG_0A, evG_1A, evG_2A, evS_0A, evS_1A, evS_2A, evS_3A, evS_4A, evS_5A, evS_6A, evS_7A, evS_8A, evS_9A, evS_10A, bindO_ok, bindO_exn, bindO_bad, Res.bind_ok, Res.bind_exn, Res.bind_bad, Res.bindN_ok, optR_some, K0.d, EC, setN, setNs, wipeR, List.map_cons, List.map_nil, List.set_cons_zero, List.set_cons_succ, List.getElem?_cons_zero, List.getElem?_cons_succ, List.cons_append, List.nil_append, List.length_cons, List.length_nil, Option.map_some, Option.map_none, Nat.reduceAdd, Nat.reduceSub, Nat.reduceLeDiff, if_true, if_false, Bool.false_eq_true, List.replicate, evB_nil, evB_cons, seqO_nx, seqO_rt, seqO_exn, endD_exn, cmp_eq_int, cmp_ne_int, cmp_eq_bl, cmp_ne_bl, Bool.not_true, Bool.not_false, List.filterMap_cons, List.filterMap_nil, truth_bl, truth_int, truth_non, truth_tup, truth_lst, cmp_lt, cmp_le, cmp_gt, cmp_ge, cmp_in, cmp_inL, cmp_notin, ix_tup, ix_lst, ix_kl, add_int_true, sub_int_true, add_tup_true, pow_int_true, mul_tup_true, add_lst_true, sl_tup_true, sl_lst_true, sl_kl_true, len_tup_true, tuple_tup_true, list_tup_true, len_lst_true, tuple_lst_true, list_lst_true, len_kl_true, tuple_kl_true, list_kl_true, tuple_ref_true, int_int_true, int_bl_true, abs_int_true, all_lst_true, any_lst_true, sum_lst_true, max_lst_true, add_int_false, sub_int_false, add_tup_false, pow_int_false, mul_tup_false, add_lst_false, sl_tup_false, sl_lst_false, sl_kl_false, len_tup_false, tuple_tup_false, list_tup_false, len_lst_false, tuple_lst_false, list_lst_false, len_kl_false, tuple_kl_false, list_kl_false, tuple_ref_false, int_int_false, int_bl_false, abs_int_false, all_lst_false, any_lst_false, sum_lst_false, max_lst_false, newL_f, newL_t, sv_tup, sv_lst, sv_kl, se_tup, se_lst, se_kl, sz_tup, sz_lst, all_const, beq_self_eq_true, eq_self, decide_true, iD_len, in_iD, in_iDL, filter_tt, map_idd, atI_zero, blsOf_map, intsOf_map, all_map_id, cut_tail, is_int_n, isnot_int_n, is_bl_n, isnot_bl_n, is_str_n, isnot_str_n, is_tup_n, isnot_tup_n, is_lst_n, isnot_lst_n, is_kl_n, isnot_kl_n, is_non_n, isnot_non_n, is_bl_bl, seq_ref0, lst_ref0, own_ref0, truth_ref0, ix_ref0, app_ref0, tuple_ref0, len_ref0, set_ref0, isSome_some, atI_last, ix3_0, ix3_1, ix3_2, at3_1, at3_2, isi_non_int, isi_non_bl, isi_non_str, isi_non_tup, isi_non_lst, isi_non_lst_tup, isi_non_bl_str, isi_bl_int, isi_bl_bl, isi_bl_str, isi_bl_tup, isi_bl_lst, isi_bl_lst_tup, isi_bl_bl_str, isi_int_int, isi_int_bl, isi_int_str, isi_int_tup, isi_int_lst, isi_int_lst_tup, isi_int_bl_str, isi_str_int, isi_str_bl, isi_str_str, isi_str_tup, isi_str_lst, isi_str_lst_tup, isi_str_bl_str, isi_tup_int, isi_tup_bl, isi_tup_str, isi_tup_tup, isi_tup_lst, isi_tup_lst_tup, isi_tup_bl_str, isi_lst_int, isi_lst_bl, isi_lst_str, isi_lst_tup, isi_lst_lst, isi_lst_lst_tup, isi_lst_bl_str, isi_kl_int, isi_kl_bl, isi_kl_str, isi_kl_tup, isi_kl_lst, isi_kl_lst_tup, isi_kl_bl_str, endD_rt, endD_nx, seq_tupD, seq_lstD, mm_int]
    | lst xs =>
      simp only [okS, Bool.and_eq_true, decide_eq_true_eq, List.all_eq_true] at h
      simp only [b26, runB, ev_0A, ev_1A, ev_2A, ev_3A, ev_4A, ev_5A, ev_6A, ev_7A, ev_8A, ev_9A, ev_10A, ev_11A, ev_12A, ev_13A, ev_14A, ev_15A, ev_16A, ev_17A, ev_18A, ev_19A, ev_20A, ev_21A, evs_0A, evs_1A, evO_0A, evO_1A, evT_0A, evT_1A, evT_2A, evT_3A, evT_4A, evT_5A, evT_6A, evT_7A, evT_8A, evT_9A, evT_10A, evT_11A, evT_12A, evTs_0A, evTs_1A, evI_0A, evI_1A, evI_2A, evI_3A, evI_4A, evG_0A, evG_1A, evG_2A, evS_0A, evS_1A, evS_2A, evS_3A, evS_4A, evS_5A, evS_6A, evS_7A, evS_8A, evS_9A, evS_10A, bindO_ok, bindO_exn, bindO_bad, Res.bind_ok, Res.bind_exn, Res.bind_bad, Res.bindN_ok, optR_some, K0.d, EC, setN, setNs, wipeR, List.map_cons, List.map_nil, List.set_cons_zero, List.set_cons_succ, List.getElem?_cons_zero, List.getElem?_cons_succ, List.cons_append, List.nil_append, List.length_cons, List.length_nil, Option.map_some, Option.map_none, Nat.reduceAdd, Nat.reduceSub, Nat.reduceLeDiff, if_true, if_false, Bool.false_eq_true, List.replicate, evB_nil, evB_cons, seqO_nx, seqO_rt, seqO_exn, endD_exn, cmp_eq_int, cmp_ne_int, cmp_eq_bl, cmp_ne_bl, Bool.not_true, Bool.not_false, List.filterMap_cons, List.filterMap_nil, truth_bl, truth_int, truth_non, truth_tup, truth_lst, cmp_lt, cmp_le, cmp_gt, cmp_ge, cmp_in, cmp_inL, cmp_notin, ix_tup, ix_lst, ix_kl, add_int_true, sub_int_true, add_tup_true, pow_int_true, mul_tup_true, add_lst_true, sl_tup_true, sl_lst_true, sl_kl_true, len_tup_true, tuple_tup_true, list_tup_true, len_lst_true, tuple_lst_true, list_lst_true, len_kl_true, tuple_kl_true, list_kl_true, tuple_ref_true, int_int_true, int_bl_true, abs_int_true, all_lst_true, any_lst_true, sum_lst_true, max_lst_true, add_int_false, sub_int_false, add_tup_false, pow_int_false, mul_tup_false, add_lst_false, sl_tup_false, sl_lst_false, sl_kl_false, len_tup_false, tuple_tup_false, list_tup_false, len_lst_false, tuple_lst_false, list_lst_false, len_kl_false, tuple_kl_false, list_kl_false, tuple_ref_false, int_int_false, int_bl_false, abs_int_false, all_lst_false, any_lst_false, sum_lst_false, max_lst_false, newL_f, newL_t, sv_tup, sv_lst, sv_kl, se_tup, se_lst, se_kl, sz_tup, sz_lst, all_const, beq_self_eq_true, eq_self, decide_true, iD_len, in_iD, in_iDL, filter_tt, map_idd, atI_zero, blsOf_map, intsOf_map, all_map_id, cut_tail, is_int_n, isnot_int_n, is_bl_n, isnot_bl_n, is_str_n, isnot_str_n, is_tup_n, isnot_tup_n, is_lst_n, isnot_lst_n, is_kl_n, isnot_kl_n, is_non_n, isnot_non_n, is_bl_bl, seq_ref0, lst_ref0, own_ref0, truth_ref0, ix_ref0, app_ref0, tuple_ref0, len_ref0, set_ref0, isSome_some, atI_last, ix3_0, ix3_1, ix3_2, at3_1, at3_2, isi_non_int, isi_non_bl, isi_non_str, isi_non_tup, isi_non_lst, isi_non_lst_tup, isi_non_bl_str, isi_bl_int, isi_bl_bl, isi_bl_str, isi_bl_tup, isi_bl_lst, isi_bl_lst_tup, isi_bl_bl_str, isi_int_int, isi_int_bl, isi_int_str, isi_int_tup, isi_int_lst, isi_int_lst_tup, isi_int_bl_str, isi_str_int, isi_str_bl, isi_str_str, isi_str_tup, isi_str_lst, isi_str_lst_tup, isi_str_bl_str, isi_tup_int, isi_tup_bl, isi_tup_str, isi_tup_tup, isi_tup_lst, isi_tup_lst_tup, isi_tup_bl_str, isi_lst_int, isi_lst_bl, isi_lst_str, isi_lst_tup, isi_lst_lst, isi_lst_lst_tup, isi_lst_bl_str, isi_kl_int, isi_kl_bl, isi_kl_str, isi_kl_tup, isi_kl_lst, isi_kl_lst_tup, isi_kl_bl_str, endD_rt, endD_nx, seq_tupD, seq_lstD, mm_int]
      rw [lc_pureA xs (fun x => .tup [x, x]) (fun _ => true) (fun _ => .bl true) (fun x => [some (.lst xs), some (.lst xs), some x, some x]) (fun i => at_zip2 i) (fun x hx => ⟨rfl, rfl, fun _ => by
        simp only [runB, ev_0A, ev_1A, ev_2A, ev_3A, ev_4A, ev_5A, ev_6A, ev_7A, ev_8A, ev_9A, ev_10A, ev_11A, ev_12A, ev_13A, ev_14A, ev_15A, ev_16A, ev_17A, ev_18A, ev_19A, ev_20A, ev_21A, evs_0A, evs_1A, evO_0A, evO_1A, evT_0A, evT_1A, evT_2A, evT_3A, evT_4A, evT_5A, evT_6A, evT_7A, evT_8A, evT_9A, evT_10A, evT_11A, evT_12A, evTs_0A, evTs_1A, evI_0A, evI_1A, evI_2A, evI_3A, evI_4A, evG_0A, evG_1A, evG_2A, evS_0A, evS_1A, evS_2A, evS_3A, evS_4A, evS_5A, evS_6A, evS_7A, evS_8A, evS_9A, evS_10A, bindO_ok, bindO_exn, bindO_bad, Res.bind_ok, Res.bind_exn, Res.bind_bad, Res.bindN_ok, optR_some, K0.d, EC, setN, setNs, wipeR, List.map_cons, List.map_nil, List.set_cons_zero, List.set_cons_succ, List.getElem?_cons_zero, List.getElem?_cons_succ, List.cons_append, List.nil_append, List.length_cons, List.length_nil, Option.map_some, Option.map_none, Nat.reduceAdd, Nat.reduceSub, Nat.reduceLeDiff, if_true, if_false, Bool.false_eq_true, List.replicate, evB_nil, evB_cons, seqO_nx, seqO_rt, seqO_exn, endD_exn, cmp_eq_int, cmp_ne_int, cmp_eq_bl, cmp_ne_bl, Bool.not_true, Bool.not_false, List.filterMap_cons, List.filterMap_nil, truth_bl, truth_int, truth_non, truth_tup, truth_lst, cmp_lt, cmp_le, cmp_gt, cmp_ge, cmp_in, cmp_inL, cmp_notin, ix_tup, ix_lst, ix_kl, add_int_true, sub_int_true, add_tup_true, pow_int_true, mul_tup_true, add_lst_true, sl_tup_true, sl_lst_true, sl_kl_true, len_tup_true, tuple_tup_true, list_tup_true, len_lst_true, tuple_lst_true, list_lst_true, len_kl_true, tuple_kl_true, list_kl_true, tuple_ref_true, int_int_true, int_bl_true, abs_int_true, all_lst_true, any_lst_true, sum_lst_true, max_lst_true, add_int_false, sub_int_false, add_tup_false, pow_int_false, mul_tup_false, add_lst_false, sl_tup_false, sl_lst_false, sl_kl_false, len_tup_false, tuple_tup_false, list_tup_false, len_lst_false, tuple_lst_false, list_lst_false, len_kl_false, tuple_kl_false, list_kl_false, tuple_ref_false, int_int_false, int_bl_false, abs_int_false, all_lst_false, any_lst_false, sum_lst_false, max_lst_false, newL_f, newL_t, sv_tup, sv_lst, sv_kl, se_tup, se_lst, se_kl, sz_tup, sz_lst, all_const, beq_self_eq_true, eq_self, decide_true, iD_len, in_iD, in_iDL, filter_tt, map_idd, atI_zero, blsOf_map, intsOf_map, all_map_id, cut_tail, is_int_n, isnot_int_n, is_bl_n, isnot_bl_n, is_str_n, isnot_str_n, is_tup_n, isnot_tup_n, is_lst_n, isnot_lst_n, is_kl_n, isnot_kl_n, is_non_n, isnot_non_n, is_bl_bl, seq_ref0, lst_ref0, own_ref0, truth_ref0, ix_ref0, app_ref0, tuple_ref0, len_ref0, set_ref0, isSome_some, atI_last, ix3_0, ix3_1, ix3_2, at3_1, at3_2, isi_non_int, isi_non_bl, isi_non_str, isi_non_tup, isi_non_lst, isi_non_lst_tup, isi_non_bl_str, isi_bl_int, isi_bl_bl, isi_bl_str, isi_bl_tup, isi_bl_lst, isi_bl_lst_tup, isi_bl_bl_str, isi_int_int, isi_int_bl, isi_int_str, isi_int_tup, isi_int_lst, isi_int_lst_tup, isi_int_bl_str, isi_str_int, isi_str_bl, isi_str_str, isi_str_tup, isi_str_lst, isi_str_lst_tup, isi_str_bl_str, isi_tup_int, isi_tup_bl, isi_tup_str, isi_tup_tup, isi_tup_lst, isi_tup_lst_tup, isi_tup_bl_str, isi_lst_int, isi_lst_bl, isi_lst_str, isi_lst_tup, isi_lst_lst, isi_lst_lst_tup, isi_lst_bl_str, isi_kl_int, isi_kl_bl, isi_kl_str, isi_kl_tup, isi_kl_lst, isi_kl_lst_tup, isi_kl_bl_str, endD_rt, endD_nx, seq_tupD, seq_lstD, mm_int, step x (h.2 x hx)]⟩) h.1]
      simp only [runB, ev_0A, ev_1A, ev_2A, ev_3A, ev_4A, ev_5A, ev_6A, ev_7A, ev_8A, ev_9A, ev_10A, ev_11A, ev_12A, ev_13A, ev_14A, ev_15A, ev_16A, ev_17A, ev_18A, ev_19A, ev_20A, ev_21A, evs_0A, evs_1A, evO_0A, evO_1A, evT_0A, evT_1A, evT_2A, evT_3A, evT_4A, evT_5A, evT_6A, evT_7A, evT_8A, evT_9A, evT_10A, evT_11A, evT_12A, evTs_0A, evTs_1A, evI_0A, evI_1A, evI_2A, evI_3A, evI_4A, evG_0A, evG_1A, evG_2A, evS_0A, evS_1A, evS_2A, evS_3A, evS_4A, evS_5A, evS_6A, evS_7A, evS_8A, evS_9A, evS_10A, bindO_ok, bindO_exn, bindO_bad, Res.bind_ok, Res.bind_exn, Res.bind_bad, Res.bindN_ok, optR_some, K0.d, EC, setN, setNs, wipeR, List.map_cons, List.map_nil, List.set_cons_zero, List.set_cons_succ, List.getElem?_cons_zero, List.getElem?_cons_succ, List.cons_append, List.nil_append, List.length_cons, List.length_nil, Option.map_some, Option.map_none, Nat.reduceAdd, Nat.reduceSub, Nat.reduceLeDiff, if_true, if_false, Bool.false_eq_true, List.replicate, evB_nil, evB_cons, seqO_nx, seqO_rt, seqO_exn, endD_exn, cmp_eq_int, cmp_ne_int, cmp_eq_bl, cmp_ne_bl, Bool.not_true, Bool.not_false, List.filterMap_cons, List.filterMap_nil, truth_bl, truth_int, truth_non, truth_tup, truth_lst, cmp_lt, cmp_le, cmp_gt, cmp_ge, cmp_in, cmp_inL, cmp_notin, ix_tup, ix_lst, ix_kl, add_int_true, sub_int_true, add_tup_true, pow_int_true, mul_tup_true, add_lst_true, sl_tup_true, sl_lst_true, sl_kl_true, len_tup_true, tuple_tup_true, list_tup_true, len_lst_true, tuple_lst_true, list_lst_true, len_kl_true, tuple_kl_true, list_kl_true, tuple_ref_true, int_int_true, int_bl_true, abs_int_true, all_lst_true, any_lst_true, sum_lst_true, max_lst_true, add_int_false, sub_int_false, add_tup_false, pow_int_false, mul_tup_false, add_lst_false, sl_tup_false, sl_lst_false, sl_kl_false, len_tup_false, tuple_tup_false, list_tup_false, len_lst_false, tuple_lst_false, list_lst_false, len_kl_false, tuple_kl_false, list_kl_false, tuple_ref_false, int_int_false, int_bl_false, abs_int_false, all_lst_false, any_lst_false, sum_lst_false, max_lst_false, newL_f, newL_t, sv_tup, sv_lst, sv_kl, se_tup, se_lst, se_kl, sz_tup, sz_lst, all_const, beq_self_eq_true, eq_self, decide_true, iD_len, in_iD, in_iDL, filter_tt, map_idd, atI_zero, blsOf_map, intsOf_map, all_map_id, cut_tail, is_int_n, isnot_int_n, is_bl_n, isnot_bl_n, is_str_n, isnot_str_n, is_tup_n, isnot_tup_n, is_lst_n, isnot_lst_n, is_kl_n, isnot_kl_n, is_non_n, isnot_non_n, is_bl_bl, seq_ref0, lst_ref0, own_ref0, truth_ref0, ix_ref0, app_ref0, tuple_ref0, len_ref0, set_ref0, isSome_some, atI_last, ix3_0, ix3_1, ix3_2, at3_1, at3_2, isi_non_int, isi_non_bl, isi_non_str, isi_non_tup, isi_non_lst, isi_non_lst_tup, isi_non_bl_str, isi_bl_int, isi_bl_bl, isi_bl_str, isi_bl_tup, isi_bl_lst, isi_bl_lst_tup, isi_bl_bl_str, isi_int_int, isi_int_bl, isi_int_str, isi_int_tup, isi_int_lst, isi_int_lst_tup, isi_int_bl_str, isi_str_int, isi_str_bl, isi_str_str, isi_str_tup, isi_str_lst, isi_str_lst_tup, isi_str_bl_str, isi_tup_int, isi_tup_bl, isi_tup_str, isi_tup_tup, isi_tup_lst, isi_tup_lst_tup, isi_tup_bl_str, isi_lst_int, isi_lst_bl, isi_lst_str, isi_lst_tup, isi_lst_lst, isi_lst_lst_tup, isi_lst_bl_str, isi_kl_int, isi_kl_bl, isi_kl_str, isi_kl_tup, isi_kl_lst, isi_kl_lst_tup, isi_kl_bl_str, endD_rt, endD_nx, seq_tupD, seq_lstD, mm_int]
    | int i => simp only [b26, runB, ev_0A, ev_1A, ev_2A, ev_3A, ev_4A, ev_5A, ev_6A, ev_7A, ev_8A, ev_9A, ev_10A, ev_11A, ev_12A, ev_13A, ev_14A, ev_15A, ev_16A, ev_17A, ev_18A, ev_19A, ev_20A, ev_21A, evs_0A, evs_1A, evO_0A, evO_1A, evT_0A, evT_1A, evT_2A, evT_3A, evT_4A, evT_5A, evT_6A, evT_7A, evT_8A, evT_9A, evT_10A, evT_11A, evT_12A, evTs_0A, evTs_1A, evI_0A, evI_1A, evI_2A, evI_3A, evI_4A, evG_0A, evG_1A, evG_2A, evS_0A, evS_1A, evS_2A, evS_3A, evS_4A, evS_5A, evS_6A, evS_7A, evS_8A, evS_9A, evS_10A, bindO_ok, bindO_exn, bindO_bad, Res.bind_ok, Res.bind_exn, Res.bind_bad, Res.bindN_ok, optR_some, K0.d, EC, setN, setNs, wipeR, List.map_cons, List.map_nil, List.set_cons_zero, List.set_cons_succ, List.getElem?_cons_zero, List.getElem?_cons_succ, List.cons_append, List.nil_append, List.length_cons, List.length_nil, Option.map_some, Option.map_none, Nat.reduceAdd, Nat.reduceSub, Nat.reduceLeDiff, if_true, if_false, Bool.false_eq_true, List.replicate, evB_nil, evB_cons, seqO_nx, seqO_rt, seqO_exn, endD_exn, cmp_eq_int, cmp_ne_int, cmp_eq_bl, cmp_ne_bl, Bool.not_true, Bool.not_false, List.filterMap_cons, List.filterMap_nil, truth_bl, truth_int, truth_non, truth_tup, truth_lst, cmp_lt, cmp_le, cmp_gt, cmp_ge, cmp_in, cmp_inL, cmp_notin, ix_tup, ix_lst, ix_kl, add_int_true, sub_int_true, add_tup_true, pow_int_true, mul_tup_true, add_lst_true, sl_tup_true, sl_lst_true, sl_kl_true, len_tup_true, tuple_tup_true, list_tup_true, len_lst_true, tuple_lst_true, list_lst_true, len_kl_true, tuple_kl_true, list_kl_true, tuple_ref_true, int_int_true, int_bl_true, abs_int_true, all_lst_true, any_lst_true, sum_lst_true, max_lst_true, add_int_false, sub_int_false, add_tup_false, pow_int_false, mul_tup_false, add_lst_false, sl_tup_false, sl_lst_false, sl_kl_false, len_tup_false, tuple_tup_false, list_tup_false, len_lst_false, tuple_lst_false, list_lst_false, len_kl_false, tuple_kl_false, list_kl_false, tuple_ref_false, int_int_false, int_bl_false, abs_int_false, all_lst_false, any_lst_false, sum_lst_false, max_lst_false, newL_f, newL_t, sv_tup, sv_lst, sv_kl, se_tup, se_lst, se_kl, sz_tup, sz_lst, all_const, beq_self_eq_true, eq_self, decide_true, iD_len, in_iD, in_iDL, filter_tt, map_idd, atI_zero, blsOf_map, intsOf_map, all_map_id, cut_tail, is_int_n, isnot_int_n, is_bl_n, isnot_bl_n, is_str_n, isnot_str_n, is_tup_n, isnot_tup_n, is_lst_n, isnot_lst_n, is_kl_n, isnot_kl_n, is_non_n, isnot_non_n, is_bl_bl, seq_ref0, lst_ref0, own_ref0, truth_ref0, ix_ref0, app_ref0, tuple_ref0, len_ref0, set_ref0, isSome_some, atI_last, ix3_0, ix3_1, ix3_2, at3_1, at3_2, isi_non_int, isi_non_bl, isi_non_str, isi_non_tup, isi_non_lst, isi_non_lst_tup, isi_non_bl_str, isi_bl_int, isi_bl_bl, isi_bl_str, isi_bl_tup, isi_bl_lst, isi_bl_lst_tup, isi_bl_bl_str, isi_int_int, isi_int_bl, isi_int_str, isi_int_tup, isi_int_lst, isi_int_lst_tup, isi_int_bl_str, isi_str_int, isi_str_bl, isi_str_str, isi_str_tup, isi_str_lst, isi_str_lst_tup, isi_str_bl_str, isi_tup_int, isi_tup_bl, isi_tup_str, isi_tup_tup, isi_tup_lst, isi_tup_lst_tup, isi_tup_bl_str, isi_lst_int, isi_lst_bl, isi_lst_str, isi_lst_tup, isi_lst_lst, isi_lst_lst_tup, isi_lst_bl_str, isi_kl_int, isi_kl_bl, isi_kl_str, isi_kl_tup, isi_kl_lst, isi_kl_lst_tup, isi_kl_bl_str, endD_rt, endD_nx, seq_tupD, seq_lstD, mm_int]
    | bl i => simp only [b26, runB, ev_0A, ev_1A, ev_2A, ev_3A, ev_4A, ev_5A, ev_6A, ev_7A, ev_8A, ev_9A, ev_10A, ev_11A, ev_12A, ev_13A, ev_14A, ev_15A, ev_16A, ev_17A, ev_18A, ev_19A, ev_20A, ev_21A, evs_0A, evs_1A, evO_0A, evO_1A, evT_0A, evT_1A, evT_2A, evT_3A, evT_4A, evT_5A, evT_6A, evT_7A, evT_8A, evT_9A, evT_10A, evT_11A, evT_12A, evTs_0A, evTs_1A, evI_0A, evI_1A, evI_2A, evI_3A, evI_4A, evG_0A, evG_1A, evG_2A, evS_0A, evS_1A, evS_2A, evS_3A, evS_4A, evS_5A, evS_6A, evS_7A, evS_8A, evS_9A, evS_10A, bindO_ok, bindO_exn, bindO_bad, Res.bind_ok, Res.bind_exn, Res.bind_bad, Res.bindN_ok, optR_some, K0.d, EC, setN, setNs, wipeR, List.map_cons, List.map_nil, List.set_cons_zero, List.set_cons_succ, List.getElem?_cons_zero, List.getElem?_cons_succ, List.cons_append, List.nil_append, List.length_cons, List.length_nil, Option.map_some, Option.map_none, Nat.reduceAdd, Nat.reduceSub, Nat.reduceLeDiff, if_true, if_false, Bool.false_eq_true, List.replicate, evB_nil, evB_cons, seqO_nx, seqO_rt, seqO_exn, endD_exn, cmp_eq_int, cmp_ne_int, cmp_eq_bl, cmp_ne_bl, Bool.not_true, Bool.not_false, List.filterMap_cons, List.filterMap_nil, truth_bl, truth_int, truth_non, truth_tup, truth_lst, cmp_lt, cmp_le, cmp_gt, cmp_ge, cmp_in, cmp_inL, cmp_notin, ix_tup, ix_lst, ix_kl, add_int_true, sub_int_true, add_tup_true, pow_int_true, mul_tup_true, add_lst_true, sl_tup_true, sl_lst_true, sl_kl_true, len_tup_true, tuple_tup_true, list_tup_true, len_lst_true, tuple_lst_true, list_lst_true, len_kl_true, tuple_kl_true, list_kl_true, tuple_ref_true, int_int_true, int_bl_true, abs_int_true, all_lst_true, any_lst_true, sum_lst_true, max_lst_true, add_int_false, sub_int_false, add_tup_false, pow_int_false, mul_tup_false, add_lst_false, sl_tup_false, sl_lst_false, sl_kl_false, len_tup_false, tuple_tup_false, list_tup_false, len_lst_false, tuple_lst_false, list_lst_false, len_kl_false, tuple_kl_false, list_kl_false, tuple_ref_false, int_int_false, int_bl_false, abs_int_false, all_lst_false, any_lst_false, sum_lst_false, max_lst_false, newL_f, newL_t, sv_tup, sv_lst, sv_kl, se_tup, se_lst, se_kl, sz_tup, sz_lst, all_const, beq_self_eq_true, eq_self, decide_true, iD_len, in_iD, in_iDL, filter_tt, map_idd, atI_zero, blsOf_map, intsOf_map, all_map_id, cut_tail, is_int_n, isnot_int_n, is_bl_n, isnot_bl_n, is_str_n, isnot_str_n, is_tup_n, isnot_tup_n, is_lst_n, isnot_lst_n, is_kl_n, isnot_kl_n, is_non_n, isnot_non_n, is_bl_bl, seq_ref0, lst_ref0, own_ref0, truth_ref0, ix_ref0, app_ref0, tuple_ref0, len_ref0, set_ref0, isSome_some, atI_last, ix3_0, ix3_1, ix3_2, at3_1, at3_2, isi_non_int, isi_non_bl, isi_non_str, isi_non_tup, isi_non_lst, isi_non_lst_tup, isi_non_bl_str, isi_bl_int, isi_bl_bl, isi_bl_str, isi_bl_tup, isi_bl_lst, isi_bl_lst_tup, isi_bl_bl_str, isi_int_int, isi_int_bl, isi_int_str, isi_int_tup, isi_int_lst, isi_int_lst_tup, isi_int_bl_str, isi_str_int, isi_str_bl, isi_str_str, isi_str_tup, isi_str_lst, isi_str_lst_tup, isi_str_bl_str, isi_tup_int, isi_tup_bl, isi_tup_str, isi_tup_tup, isi_tup_lst, isi_tup_lst_tup, isi_tup_bl_str, isi_lst_int, isi_lst_bl, isi_lst_str, isi_lst_tup, isi_lst_lst, isi_lst_lst_tup, isi_lst_bl_str, isi_kl_int, isi_kl_bl, isi_kl_str, isi_kl_tup, isi_kl_lst, isi_kl_lst_tup, isi_kl_bl_str, endD_rt, endD_nx, seq_tupD, seq_lstD, mm_int]
    | non => simp only [b26, runB, ev_0A, ev_1A, ev_2A, ev_3A, ev_4A, ev_5A, ev_6A, ev_7A, ev_8A, ev_9A, ev_10A, ev_11A, ev_12A, ev_13A, ev_14A, ev_15A, ev_16A, ev_17A, ev_18A, ev_19A, ev_20A, ev_21A, evs_0A, evs_1A, evO_0A, evO_1A, evT_0A, evT_1A, evT_2A, evT_3A, evT_4A, evT_5A, evT_6A, evT_7A, evT_8A, evT_9A, evT_10A, evT_11A, evT_12A, evTs_0A, evTs_1A, evI_0A, evI_1A, evI_2A, evI_3A, evI_4A, evG_0A, evG_1A, evG_2A, evS_0A, evS_1A, evS_2A, evS_3A, evS_4A, evS_5A, evS_6A, evS_7A, evS_8A, evS_9A, evS_10A, bindO_ok, bindO_exn, bindO_bad, Res.bind_ok, Res.bind_exn, Res.bind_bad, Res.bindN_ok, optR_some, K0.d, EC, setN, setNs, wipeR, List.map_cons, List.map_nil, List.set_cons_zero, List.set_cons_succ, List.getElem?_cons_zero, List.getElem?_cons_succ, List.cons_append, List.nil_append, List.length_cons, List.length_nil, Option.map_some, Option.map_none, Nat.reduceAdd, Nat.reduceSub, Nat.reduceLeDiff, if_true, if_false, Bool.false_eq_true, List.replicate, evB_nil, evB_cons, seqO_nx, seqO_rt, seqO_exn, endD_exn, cmp_eq_int, cmp_ne_int, cmp_eq_bl, cmp_ne_bl, Bool.not_true, Bool.not_false, List.filterMap_cons, List.filterMap_nil, truth_bl, truth_int, truth_non, truth_tup, truth_lst, cmp_lt, cmp_le, cmp_gt, cmp_ge, cmp_in, cmp_inL, cmp_notin, ix_tup, ix_lst, ix_kl, add_int_true, sub_int_true, add_tup_true, pow_int_true, mul_tup_true, add_lst_true, sl_tup_true, sl_lst_true, sl_kl_true, len_tup_true, tuple_tup_true, list_tup_true, len_lst_true, tuple_lst_true, list_lst_true, len_kl_true, tuple_kl_true, list_kl_true, tuple_ref_true, int_int_true, int_bl_true, abs_int_true, all_lst_true, any_lst_true, sum_lst_true, max_lst_true, add_int_false, sub_int_false, add_tup_false, pow_int_false, mul_tup_false, add_lst_false, sl_tup_false, sl_lst_false, sl_kl_false, len_tup_false, tuple_tup_false, list_tup_false, len_lst_false, tuple_lst_false, list_lst_false, len_kl_false, tuple_kl_false, list_kl_false, tuple_ref_false, int_int_false, int_bl_false, abs_int_false, all_lst_false, any_lst_false, sum_lst_false, max_lst_false, newL_f, newL_t, sv_tup, sv_lst, sv_kl, se_tup, se_lst, se_kl, sz_tup, sz_lst, all_const, beq_self_eq_true, eq_self, decide_true, iD_len, in_iD, in_iDL, filter_tt, map_idd, atI_zero, blsOf_map, intsOf_map, all_map_id, cut_tail, is_int_n, isnot_int_n, is_bl_n, isnot_bl_n, is_str_n, isnot_str_n, is_tup_n, isnot_tup_n, is_lst_n, isnot_lst_n, is_kl_n, isnot_kl_n, is_non_n, isnot_non_n, is_bl_bl, seq_ref0, lst_ref0, own_ref0, truth_ref0, ix_ref0, app_ref0, tuple_ref0, len_ref0, set_ref0, isSome_some, atI_last, ix3_0, ix3_1, ix3_2, at3_1, at3_2, isi_non_int, isi_non_bl, isi_non_str, isi_non_tup, isi_non_lst, isi_non_lst_tup, isi_non_bl_str, isi_bl_int, isi_bl_bl, isi_bl_str, isi_bl_tup, isi_bl_lst, isi_bl_lst_tup, isi_bl_bl_str, isi_int_int, isi_int_bl, isi_int_str, isi_int_tup, isi_int_lst, isi_int_lst_tup, isi_int_bl_str, isi_str_int, isi_str_bl, isi_str_str, isi_str_tup, isi_str_lst, isi_str_lst_tup, isi_str_bl_str, isi_tup_int, isi_tup_bl, isi_tup_str, isi_tup_tup, isi_tup_lst, isi_tup_lst_tup, isi_tup_bl_str, isi_lst_int, isi_lst_bl, isi_lst_str, isi_lst_tup, isi_lst_lst, isi_lst_lst_tup, isi_lst_bl_str, isi_kl_int, isi_kl_bl, isi_kl_str, isi_kl_tup, isi_kl_lst, isi_kl_lst_tup, isi_kl_bl_str, endD_rt, endD_nx, seq_tupD, seq_lstD, mm_int]
    | _ => cases h
/-! ### the law's lines -/
theorem e_lline {n : Nat} {ks : List Int} {k : Int} {S : Store} (h : isK ks = true) (h0 : 0 ≤ k) (h1 : k < ks.length) : E (n + 1) 28 [.tup (iD ks), .int k] S = .ok (.lst (iD (line ks k))) S := by
  have l8 := isK_len h
  refine callPf (fd := d28.fd) (r := .ref 0) rfl rfl rfl (by simp only [D.pures, D.pure, Bool.and_true]; exact iD_pures ks) (S1 := [.lst (iD (line ks k))]) ?_ (by
    show (frzRs (fun m => frz 59 [SO.lst (iD (line ks k))] (.ref m)) (iD (line ks k))).map D.lst = _
    rw [frzRs_pure _ (iD_pures _)]
    rfl)
  show runB (C n) ⟨2, 4, true, b28⟩ _ _ = _
  have loop := for_inv (src := .rng 0 ks.length) (tg := evG (C n) (.name 3)) (N := ks.length)
    (tb := evB (C n) (.cons (.ite (.cmp .ge (.ix (.var 0) (.ix (.var 2) (.neg (.con (.int 1))))) (.con (.int 0))) (.cons (.expr (.meth (.var 2) .append (.cons (.ix (.var 0) (.ix (.var 2) (.neg (.con (.int 1))))) .nil))) .nil) .nil) .nil))
    (fun i ρ St => ∃ (x : Option D) (acc : List Int) (l : Int), ρ = [some (.tup (iD ks)), some (.int k), some (.ref 0), x] ∧ St = [.lst (iD acc ++ [.int l])] ∧ 0 ≤ l ∧ l < ks.length ∧ acc ++ line ks l = line ks k ∧ (l + i ≤ k ∨ par ks l < 0) ∧ acc.length ≤ i)
    (fun o => ∃ x, o = .nx [some (.tup (iD ks)), some (.int k), some (.ref 0), x] [.lst (iD (line ks k))])
    (by
      rintro i ρ St hi ⟨x, acc, l, rfl, rfl, l0, l1, hl, hd, ha⟩
      refine ⟨.int (i : Nat), [some (.tup (iD ks)), some (.int k), some (.ref 0), some (.int (i : Nat))], [.lst (iD acc ++ [.int l])], ?_, rfl, ?_⟩
      · rw [at_rng, List.getElem?_range hi]
        rfl
      · have p := isK_par h l0 l1
        simp only [runB, ev_0A, ev_1A, ev_2A, ev_3A, ev_4A, ev_5A, ev_6A, ev_7A, ev_8A, ev_9A, ev_10A, ev_11A, ev_12A, ev_13A, ev_14A, ev_15A, ev_16A, ev_17A, ev_18A, ev_19A, ev_20A, ev_21A, evs_0A, evs_1A, evO_0A, evO_1A, evT_0A, evT_1A, evT_2A, evT_3A, evT_4A, evT_5A, evT_6A, evT_7A, evT_8A, evT_9A, evT_10A, evT_11A, evT_12A, evTs_0A, evTs_1A, evI_0A, evI_1A, evI_2A, evI_3A, evI_4A, evG_0A, evG_1A, evG_2A, evS_0A, evS_1A, evS_2A, evS_3A, evS_4A, evS_5A, evS_6A, evS_7A, evS_8A, evS_9A, evS_10A, bindO_ok, bindO_exn, bindO_bad, Res.bind_ok, Res.bind_exn, Res.bind_bad, Res.bindN_ok, optR_some, K0.d, EC, setN, setNs, wipeR, List.map_cons, List.map_nil, List.set_cons_zero, List.set_cons_succ, List.getElem?_cons_zero, List.getElem?_cons_succ, List.cons_append, List.nil_append, List.length_cons, List.length_nil, Option.map_some, Option.map_none, Nat.reduceAdd, Nat.reduceSub, Nat.reduceLeDiff, if_true, if_false, Bool.false_eq_true, List.replicate, evB_nil, evB_cons, seqO_nx, seqO_rt, seqO_exn, endD_exn, cmp_eq_int, cmp_ne_int, cmp_eq_bl, cmp_ne_bl, Bool.not_true, Bool.not_false, List.filterMap_cons, List.filterMap_nil, truth_bl, truth_int, truth_non, truth_tup, truth_lst, cmp_lt, cmp_le, cmp_gt, cmp_ge, cmp_in, cmp_inL, cmp_notin, ix_tup, ix_lst, ix_kl, add_int_true, sub_int_true, add_tup_true, pow_int_true, mul_tup_true, add_lst_true, sl_tup_true, sl_lst_true, sl_kl_true, len_tup_true, tuple_tup_true, list_tup_true, len_lst_true, tuple_lst_true, list_lst_true, len_kl_true, tuple_kl_true, list_kl_true, tuple_ref_true, int_int_true, int_bl_true, abs_int_true, all_lst_true, any_lst_true, sum_lst_true, max_lst_true, add_int_false, sub_int_false, add_tup_false, pow_int_false, mul_tup_false, add_lst_false, sl_tup_false, sl_lst_false, sl_kl_false, len_tup_false, tuple_tup_false, list_tup_false, len_lst_false, tuple_lst_false, list_lst_false, len_kl_false, tuple_kl_false, list_kl_false, tuple_ref_false, int_int_false, int_bl_false, abs_int_false, all_lst_false, any_lst_false, sum_lst_false, max_lst_false, newL_f, newL_t, sv_tup, sv_lst, sv_kl, se_tup, se_lst, se_kl, sz_tup, sz_lst, all_const, beq_self_eq_true, eq_self, decide_true, iD_len, in_iD, in_iDL, filter_tt, map_idd, atI_zero, blsOf_map, intsOf_map, all_map_id, cut_tail, is_int_n, isnot_int_n, is_bl_n, isnot_bl_n, is_str_n, isnot_str_n, is_tup_n, isnot_tup_n, is_lst_n, isnot_lst_n, is_kl_n, isnot_kl_n, is_non_n, isnot_non_n, is_bl_bl, seq_ref0, lst_ref0, own_ref0, truth_ref0, ix_ref0, app_ref0, tuple_ref0, len_ref0, set_ref0, isSome_some, atI_last, ix3_0, ix3_1, ix3_2, at3_1, at3_2, isi_non_int, isi_non_bl, isi_non_str, isi_non_tup, isi_non_lst, isi_non_lst_tup, isi_non_bl_str, isi_bl_int, isi_bl_bl, isi_bl_str, isi_bl_tup, isi_bl_lst, isi_bl_lst_tup, isi_bl_bl_str, isi_int_int, isi_int_bl, isi_int_str, isi_int_tup, isi_int_lst, isi_int_lst_tup, isi_int_bl_str, isi_str_int, isi_str_bl, isi_str_str, isi_str_tup, isi_str_lst, isi_str_lst_tup, isi_str_bl_str, isi_tup_int, isi_tup_bl, isi_tup_str, isi_tup_tup, isi_tup_lst, isi_tup_lst_tup, isi_tup_bl_str, isi_lst_int, isi_lst_bl, isi_lst_str, isi_lst_tup, isi_lst_lst, isi_lst_lst_tup, isi_lst_bl_str, isi_kl_int, isi_kl_bl, isi_kl_str, isi_kl_tup, isi_kl_lst, isi_kl_lst_tup, isi_kl_bl_str, endD_rt, endD_nx, seq_tupD, seq_lstD, mm_int, Int.reduceNeg, atI_iD l0 l1]
        by_cases hp : 0 ≤ par ks l
        · rw [decide_eq_true hp]
          simp only [runB, ev_0A, ev_1A, ev_2A, ev_3A, ev_4A, ev_5A, ev_6A, ev_7A, ev_8A, ev_9A, ev_10A, ev_11A, ev_12A, ev_13A, ev_14A, ev_15A, ev_16A, ev_17A, ev_18A, ev_19A, ev_20A, ev_21A, evs_0A, evs_1A, evO_0A, evO_1A, evT_0A, evT_1A, evT_2A, evT_3A, evT_4A, evT_5A, evT_6A, evT_7A, evT_8A, evT_9A, evT_10A, evT_11A, evT_12A, evTs_0A, evTs_1A, evI_0A, evI_1A, evI_2A, evI_3A, evI_4A, evG_0A, evG_1A, evG_2A, evS_0A, evS_1A, evS_2A, evS_3A, evS_4A, evS_5A, evS_6A, evS_7A, evS_8A, evS_9A, evS_10A, bindO_ok, bindO_exn, bindO_bad, Res.bind_ok, Res.bind_exn, Res.bind_bad, Res.bindN_ok, optR_some, K0.d, EC, setN, setNs, wipeR, List.map_cons, List.map_nil, List.set_cons_zero, List.set_cons_succ, List.getElem?_cons_zero, List.getElem?_cons_succ, List.cons_append, List.nil_append, List.length_cons, List.length_nil, Option.map_some, Option.map_none, Nat.reduceAdd, Nat.reduceSub, Nat.reduceLeDiff, if_true, if_false, Bool.false_eq_true, List.replicate, evB_nil, evB_cons, seqO_nx, seqO_rt, seqO_exn, endD_exn, cmp_eq_int, cmp_ne_int, cmp_eq_bl, cmp_ne_bl, Bool.not_true, Bool.not_false, List.filterMap_cons, List.filterMap_nil, truth_bl, truth_int, truth_non, truth_tup, truth_lst, cmp_lt, cmp_le, cmp_gt, cmp_ge, cmp_in, cmp_inL, cmp_notin, ix_tup, ix_lst, ix_kl, add_int_true, sub_int_true, add_tup_true, pow_int_true, mul_tup_true, add_lst_true, sl_tup_true, sl_lst_true, sl_kl_true, len_tup_true, tuple_tup_true, list_tup_true, len_lst_true, tuple_lst_true, list_lst_true, len_kl_true, tuple_kl_true, list_kl_true, tuple_ref_true, int_int_true, int_bl_true, abs_int_true, all_lst_true, any_lst_true, sum_lst_true, max_lst_true, add_int_false, sub_int_false, add_tup_false, pow_int_false, mul_tup_false, add_lst_false, sl_tup_false, sl_lst_false, sl_kl_false, len_tup_false, tuple_tup_false, list_tup_false, len_lst_false, tuple_lst_false, list_lst_false, len_kl_false, tuple_kl_false, list_kl_false, tuple_ref_false, int_int_false, int_bl_false, abs_int_false, all_lst_false, any_lst_false, sum_lst_false, max_lst_false, newL_f, newL_t, sv_tup, sv_lst, sv_kl, se_tup, se_lst, se_kl, sz_tup, sz_lst, all_const, beq_self_eq_true, eq_self, decide_true, iD_len, in_iD, in_iDL, filter_tt, map_idd, atI_zero, blsOf_map, intsOf_map, all_map_id, cut_tail, is_int_n, isnot_int_n, is_bl_n, isnot_bl_n, is_str_n, isnot_str_n, is_tup_n, isnot_tup_n, is_lst_n, isnot_lst_n, is_kl_n, isnot_kl_n, is_non_n, isnot_non_n, is_bl_bl, seq_ref0, lst_ref0, own_ref0, truth_ref0, ix_ref0, app_ref0, tuple_ref0, len_ref0, set_ref0, isSome_some, atI_last, ix3_0, ix3_1, ix3_2, at3_1, at3_2, isi_non_int, isi_non_bl, isi_non_str, isi_non_tup, isi_non_lst, isi_non_lst_tup, isi_non_bl_str, isi_bl_int, isi_bl_bl, isi_bl_str, isi_bl_tup, isi_bl_lst, isi_bl_lst_tup, isi_bl_bl_str, isi_int_int, isi_int_bl, isi_int_str, isi_int_tup, isi_int_lst, isi_int_lst_tup, isi_int_bl_str, isi_str_int, isi_str_bl, isi_str_str, isi_str_tup, isi_str_lst, isi_str_lst_tup, isi_str_bl_str, isi_tup_int, isi_tup_bl, isi_tup_str, isi_tup_tup, isi_tup_lst, isi_tup_lst_tup, isi_tup_bl_str, isi_lst_int, isi_lst_bl, isi_lst_str, isi_lst_tup, isi_lst_lst, isi_lst_lst_tup, isi_lst_bl_str, isi_kl_int, isi_kl_bl, isi_kl_str, isi_kl_tup, isi_kl_lst, isi_kl_lst_tup, isi_kl_bl_str, endD_rt, endD_nx, seq_tupD, seq_lstD, mm_int, Int.reduceNeg, atI_iD l0 l1]
          rw [if_pos (by simp [iD_len]; omega)]
          simp only [runB, ev_0A, ev_1A, ev_2A, ev_3A, ev_4A, ev_5A, ev_6A, ev_7A, ev_8A, ev_9A, ev_10A, ev_11A, ev_12A, ev_13A, ev_14A, ev_15A, ev_16A, ev_17A, ev_18A, ev_19A, ev_20A, ev_21A, evs_0A, evs_1A, evO_0A, evO_1A, evT_0A, evT_1A, evT_2A, evT_3A, evT_4A, evT_5A, evT_6A, evT_7A, evT_8A, evT_9A, evT_10A, evT_11A, evT_12A, evTs_0A, evTs_1A, evI_0A, evI_1A, evI_2A, evI_3A, evI_4A, evG_0A, evG_1A, evG_2A, evS_0A, evS_1A, evS_2A, evS_3A, evS_4A, evS_5A, evS_6A, evS_7A, evS_8A, evS_9A, evS_10A, bindO_ok, bindO_exn, bindO_bad, Res.bind_ok, Res.bind_exn, Res.bind_bad, Res.bindN_ok, optR_some, K0.d, EC, setN, setNs, wipeR, List.map_cons, List.map_nil, List.set_cons_zero, List.set_cons_succ, List.getElem?_cons_zero, List.getElem?_cons_succ, List.cons_append, List.nil_append, List.length_cons, List.length_nil, Option.map_some, Option.map_none, Nat.reduceAdd, Nat.reduceSub, Nat.reduceLeDiff, if_true, if_false, Bool.false_eq_true, List.replicate, evB_nil, evB_cons, seqO_nx, seqO_rt, seqO_exn, endD_exn, cmp_eq_int, cmp_ne_int, cmp_eq_bl, cmp_ne_bl, Bool.not_true, Bool.not_false, List.filterMap_cons, List.filterMap_nil, truth_bl, truth_int, truth_non, truth_tup, truth_lst, cmp_lt, cmp_le, cmp_gt, cmp_ge, cmp_in, cmp_inL, cmp_notin, ix_tup, ix_lst, ix_kl, add_int_true, sub_int_true, add_tup_true, pow_int_true, mul_tup_true, add_lst_true, sl_tup_true, sl_lst_true, sl_kl_true, len_tup_true, tuple_tup_true, list_tup_true, len_lst_true, tuple_lst_true, list_lst_true, len_kl_true, tuple_kl_true, list_kl_true, tuple_ref_true, int_int_true, int_bl_true, abs_int_true, all_lst_true, any_lst_true, sum_lst_true, max_lst_true, add_int_false, sub_int_false, add_tup_false, pow_int_false, mul_tup_false, add_lst_false, sl_tup_false, sl_lst_false, sl_kl_false, len_tup_false, tuple_tup_false, list_tup_false, len_lst_false, tuple_lst_false, list_lst_false, len_kl_false, tuple_kl_false, list_kl_false, tuple_ref_false, int_int_false, int_bl_false, abs_int_false, all_lst_false, any_lst_false, sum_lst_false, max_lst_false, newL_f, newL_t, sv_tup, sv_lst, sv_kl, se_tup, se_lst, se_kl, sz_tup, sz_lst, all_const, beq_self_eq_true, eq_self, decide_true, iD_len, in_iD, in_iDL, filter_tt, map_idd, atI_zero, blsOf_map, intsOf_map, all_map_id, cut_tail, is_int_n, isnot_int_n, is_bl_n, isnot_bl_n, is_str_n, isnot_str_n, is_tup_n, isnot_tup_n, is_lst_n, isnot_lst_n, is_kl_n, isnot_kl_n, is_non_n, isnot_non_n, is_bl_bl, seq_ref0, lst_ref0, own_ref0, truth_ref0, ix_ref0, app_ref0, tuple_ref0, len_ref0, set_ref0, isSome_some, atI_last, ix3_0, ix3_1, ix3_2, at3_1, at3_2, isi_non_int, isi_non_bl, isi_non_str, isi_non_tup, isi_non_lst, isi_non_lst_tup, isi_non_bl_str, isi_bl_int, isi_bl_bl, isi_bl_str, isi_bl_tup, isi_bl_lst, isi_bl_lst_tup, isi_bl_bl_str, isi_int_int, isi_int_bl, isi_int_str, isi_int_tup, isi_int_lst, isi_int_lst_tup, isi_int_bl_str, isi_str_int, isi_str_bl, isi_str_str, isi_str_tup, isi_str_lst, isi_str_lst_tup, isi_str_bl_str, isi_tup_int, isi_tup_bl, isi_tup_str, isi_tup_tup, isi_tup_lst, isi_tup_lst_tup, isi_tup_bl_str, isi_lst_int, isi_lst_bl, isi_lst_str, isi_lst_tup, isi_lst_lst, isi_lst_lst_tup, isi_lst_bl_str, isi_kl_int, isi_kl_bl, isi_kl_str, isi_kl_tup, isi_kl_lst, isi_kl_lst_tup, isi_kl_bl_str, endD_rt, endD_nx, seq_tupD, seq_lstD, mm_int]
          refine ⟨some (.int (i : Nat)), acc ++ [l], par ks l, rfl, ?_, hp, by omega, ?_, ?_, by simp; omega⟩
          · rw [iD_app]; rfl
          · rw [← hl, line_step h l0 l1, List.append_assoc]; rfl
          · rcases hd with hd | hd
            · exact .inl (by omega)
            · omega
        · rw [decide_eq_false hp]
          simp only [runB, ev_0A, ev_1A, ev_2A, ev_3A, ev_4A, ev_5A, ev_6A, ev_7A, ev_8A, ev_9A, ev_10A, ev_11A, ev_12A, ev_13A, ev_14A, ev_15A, ev_16A, ev_17A, ev_18A, ev_19A, ev_20A, ev_21A, evs_0A, evs_1A, evO_0A, evO_1A, evT_0A, evT_1A, evT_2A, evT_3A, evT_4A, evT_5A, evT_6A, evT_7A, evT_8A, evT_9A, evT_10A, evT_11A, evT_12A, evTs_0A, evTs_1A, evI_0A, evI_1A, evI_2A, evI_3A, evI_4A, evG_0A, evG_1A, evG_2A, evS_0A, evS_1A, evS_2A, evS_3A, evS_4A, evS_5A, evS_6A, evS_7A, evS_8A, evS_9A, evS_10A, bindO_ok, bindO_exn, bindO_bad, Res.bind_ok, Res.bind_exn, Res.bind_bad, Res.bindN_ok, optR_some, K0.d, EC, setN, setNs, wipeR, List.map_cons, List.map_nil, List.set_cons_zero, List.set_cons_succ, List.getElem?_cons_zero, List.getElem?_cons_succ, List.cons_append, List.nil_append, List.length_cons, List.length_nil, Option.map_some, Option.map_none, Nat.reduceAdd, Nat.reduceSub, Nat.reduceLeDiff, if_true, if_false, Bool.false_eq_true, List.replicate, evB_nil, evB_cons, seqO_nx, seqO_rt, seqO_exn, endD_exn, cmp_eq_int, cmp_ne_int, cmp_eq_bl, cmp_ne_bl, Bool.not_true, Bool.not_false, List.filterMap_cons, List.filterMap_nil, truth_bl, truth_int, truth_non, truth_tup, truth_lst, cmp_lt, cmp_le, cmp_gt, cmp_ge, cmp_in, cmp_inL, cmp_notin, ix_tup, ix_lst, ix_kl, add_int_true, sub_int_true, add_tup_true, pow_int_true, mul_tup_true, add_lst_true, sl_tup_true, sl_lst_true, sl_kl_true, len_tup_true, tuple_tup_true, list_tup_true, len_lst_true, tuple_lst_true, list_lst_true, len_kl_true, tuple_kl_true, list_kl_true, tuple_ref_true, int_int_true, int_bl_true, abs_int_true, all_lst_true, any_lst_true, sum_lst_true, max_lst_true, add_int_false, sub_int_false, add_tup_false, pow_int_false, mul_tup_false, add_lst_false, sl_tup_false, sl_lst_false, sl_kl_false, len_tup_false, tuple_tup_false, list_tup_false, len_lst_false, tuple_lst_false, list_lst_false, len_kl_false, tuple_kl_false, list_kl_false, tuple_ref_false, int_int_false, int_bl_false, abs_int_false, all_lst_false, any_lst_false, sum_lst_false, max_lst_false, newL_f, newL_t, sv_tup, sv_lst, sv_kl, se_tup, se_lst, se_kl, sz_tup, sz_lst, all_const, beq_self_eq_true, eq_self, decide_true, iD_len, in_iD, in_iDL, filter_tt, map_idd, atI_zero, blsOf_map, intsOf_map, all_map_id, cut_tail, is_int_n, isnot_int_n, is_bl_n, isnot_bl_n, is_str_n, isnot_str_n, is_tup_n, isnot_tup_n, is_lst_n, isnot_lst_n, is_kl_n, isnot_kl_n, is_non_n, isnot_non_n, is_bl_bl, seq_ref0, lst_ref0, own_ref0, truth_ref0, ix_ref0, app_ref0, tuple_ref0, len_ref0, set_ref0, isSome_some, atI_last, ix3_0, ix3_1, ix3_2, at3_1, at3_2, isi_non_int, isi_non_bl, isi_non_str, isi_non_tup, isi_non_lst, isi_non_lst_tup, isi_non_bl_str, isi_bl_int, isi_bl_bl, isi_bl_str, isi_bl_tup, isi_bl_lst, isi_bl_lst_tup, isi_bl_bl_str, isi_int_int, isi_int_bl, isi_int_str, isi_int_tup, isi_int_lst, isi_int_lst_tup, isi_int_bl_str, isi_str_int, isi_str_bl, isi_str_str, isi_str_tup, isi_str_lst, isi_str_lst_tup, isi_str_bl_str, isi_tup_int, isi_tup_bl, isi_tup_str, isi_tup_tup, isi_tup_lst, isi_tup_lst_tup, isi_tup_bl_str, isi_lst_int, isi_lst_bl, isi_lst_str, isi_lst_tup, isi_lst_lst, isi_lst_lst_tup, isi_lst_bl_str, isi_kl_int, isi_kl_bl, isi_kl_str, isi_kl_tup, isi_kl_lst, isi_kl_lst_tup, isi_kl_bl_str, endD_rt, endD_nx, seq_tupD, seq_lstD, mm_int]
          exact ⟨some (.int (i : Nat)), acc, l, rfl, rfl, l0, l1, hl, .inr (by omega), by omega⟩)
    (by
      rintro ρ St ⟨x, acc, l, rfl, rfl, l0, l1, hl, hd, ha⟩
      refine ⟨?_, x, ?_⟩
      · rw [at_rng, List.getElem?_eq_none (by rw [List.length_range]; exact Nat.le_refl _)]
        rfl
      · have hp : par ks l < 0 := by
          rcases hd with hd | hd
          · omega
          · exact hd
        rw [line_step h l0 l1, line_neg hp] at hl
        rw [← hl, iD_app]
        rfl)
    1000 0 [some (.tup (iD ks)), some (.int k), some (.ref 0), none] [.lst [.int k]] (by omega) (by omega) ⟨none, [], k, rfl, rfl, h0, h1, rfl, .inl (by omega), by simp⟩
  obtain ⟨x, e⟩ := loop
  simp only [b28, runB, ev_0A, ev_1A, ev_2A, ev_3A, ev_4A, ev_5A, ev_6A, ev_7A, ev_8A, ev_9A, ev_10A, ev_11A, ev_12A, ev_13A, ev_14A, ev_15A, ev_16A, ev_17A, ev_18A, ev_19A, ev_20A, ev_21A, evs_0A, evs_1A, evO_0A, evO_1A, evT_0A, evT_1A, evT_2A, evT_3A, evT_4A, evT_5A, evT_6A, evT_7A, evT_8A, evT_9A, evT_10A, evT_11A, evT_12A, evTs_0A, evTs_1A, evI_0A, evI_1A, evI_2A, evI_3A, evI_4A, evG_0A, evG_1A, evG_2A, evS_0A, evS_1A, evS_2A, evS_3A, evS_4A, evS_5A, evS_6A, evS_7A, evS_8A, evS_9A, evS_10A, bindO_ok, bindO_exn, bindO_bad, Res.bind_ok, Res.bind_exn, Res.bind_bad, Res.bindN_ok, optR_some, K0.d, EC, setN, setNs, wipeR, List.map_cons, List.map_nil, List.set_cons_zero, List.set_cons_succ, List.getElem?_cons_zero, List.getElem?_cons_succ, List.cons_append, List.nil_append, List.length_cons, List.length_nil, Option.map_some, Option.map_none, Nat.reduceAdd, Nat.reduceSub, Nat.reduceLeDiff, if_true, if_false, Bool.false_eq_true, List.replicate, evB_nil, evB_cons, seqO_nx, seqO_rt, seqO_exn, endD_exn, cmp_eq_int, cmp_ne_int, cmp_eq_bl, cmp_ne_bl, Bool.not_true, Bool.not_false, List.filterMap_cons, List.filterMap_nil, truth_bl, truth_int, truth_non, truth_tup, truth_lst, cmp_lt, cmp_le, cmp_gt, cmp_ge, cmp_in, cmp_inL, cmp_notin, ix_tup, ix_lst, ix_kl, add_int_true, sub_int_true, add_tup_true, pow_int_true, mul_tup_true, add_lst_true, sl_tup_true, sl_lst_true, sl_kl_true, len_tup_true, tuple_tup_true, list_tup_true, len_lst_true, tuple_lst_true, list_lst_true, len_kl_true, tuple_kl_true, list_kl_true, tuple_ref_true, int_int_true, int_bl_true, abs_int_true, all_lst_true, any_lst_true, sum_lst_true, max_lst_true, add_int_false, sub_int_false, add_tup_false, pow_int_false, mul_tup_false, add_lst_false, sl_tup_false, sl_lst_false, sl_kl_false, len_tup_false, tuple_tup_false, list_tup_false, len_lst_false, tuple_lst_false, list_lst_false, len_kl_false, tuple_kl_false, list_kl_false, tuple_ref_false, int_int_false, int_bl_false, abs_int_false, all_lst_false, any_lst_false, sum_lst_false, max_lst_false, newL_f, newL_t, sv_tup, sv_lst, sv_kl, se_tup, se_lst, se_kl, sz_tup, sz_lst, all_const, beq_self_eq_true, eq_self, decide_true, iD_len, in_iD, in_iDL, filter_tt, map_idd, atI_zero, blsOf_map, intsOf_map, all_map_id, cut_tail, is_int_n, isnot_int_n, is_bl_n, isnot_bl_n, is_str_n, isnot_str_n, is_tup_n, isnot_tup_n, is_lst_n, isnot_lst_n, is_kl_n, isnot_kl_n, is_non_n, isnot_non_n, is_bl_bl, seq_ref0, lst_ref0, own_ref0, truth_ref0, ix_ref0, app_ref0, tuple_ref0, len_ref0, set_ref0, isSome_some, atI_last, ix3_0, ix3_1, ix3_2, at3_1, at3_2, isi_non_int, isi_non_bl, isi_non_str, isi_non_tup, isi_non_lst, isi_non_lst_tup, isi_non_bl_str, isi_bl_int, isi_bl_bl, isi_bl_str, isi_bl_tup, isi_bl_lst, isi_bl_lst_tup, isi_bl_bl_str, isi_int_int, isi_int_bl, isi_int_str, isi_int_tup, isi_int_lst, isi_int_lst_tup, isi_int_bl_str, isi_str_int, isi_str_bl, isi_str_str, isi_str_tup, isi_str_lst, isi_str_lst_tup, isi_str_bl_str, isi_tup_int, isi_tup_bl, isi_tup_str, isi_tup_tup, isi_tup_lst, isi_tup_lst_tup, isi_tup_bl_str, isi_lst_int, isi_lst_bl, isi_lst_str, isi_lst_tup, isi_lst_lst, isi_lst_lst_tup, isi_lst_bl_str, isi_kl_int, isi_kl_bl, isi_kl_str, isi_kl_tup, isi_kl_lst, isi_kl_lst_tup, isi_kl_bl_str, endD_rt, endD_nx, seq_tupD, seq_lstD, mm_int, sr_nat (m := ks.length) (by omega), e]
/-! ### what is drawn -/
/-- the law's box -/
def boxD (a b c : Int) : SO := .lst [.int a, .int b, .int c]
theorem e_take {n : Nat} {a b c w : Int} {R : Store} (a0 : 0 ≤ a) (b0 : 0 ≤ b) (c0 : 0 ≤ c) (c1 : c < 1000000000) (w0 : 0 < w) (w1 : w < 1000000) : ∃ r a' c', E (n + 1) 22 [.ref 0, .int w] (boxD a b c :: R) = .ok (.int r) (boxD a' b c' :: R) ∧ 0 ≤ r ∧ r < w ∧ 0 ≤ a' ∧ 0 ≤ c' ∧ c' ≤ c + 1 := by
  have hE : E (n + 1) 22 [.ref 0, .int w] (boxD a b c :: R) = runB (C n) d22.fd [.ref 0, .int w] (boxD a b c :: R) := callI rfl rfl rfl
  rw [hE]
  show ∃ r a' c', runB (C n) ⟨2, 6, false, b22⟩ _ _ = _ ∧ _
  unfold boxD
  have m1 : ∀ (i : Int) (S : Store), binD false .mod (.int i) (.int w) S = .ok (.int (i % w)) S := fun i S => mod_pos w0
  have m2 : ∀ (i : Int) (S : Store), binD false .fdiv (.int i) (.int w) S = .ok (.int (i / w)) S := fun i S => fdiv_pos w0 (by omega)
  have m3 : ∀ (i : Int) (S : Store), binD false .mod (.int i) (.int 2147483647) S = .ok (.int (i % 2147483647)) S := fun i S => mod_pos (by decide)
  have m4 : ∀ (i : Int) (S : Store), binD false .mod (.int i) (.int 40009) S = .ok (.int (i % 40009)) S := fun i S => mod_pos (by decide)
  have m5 : ∀ (i : Int) (S : Store), binD false .mod (.int i) (.int 2147483629) S = .ok (.int (i % 2147483629)) S := fun i S => mod_pos (by decide)
  have m6 : ∀ (i : Int) (S : Store), binD false .mod (.int i) (.int 2147483587) S = .ok (.int (i % 2147483587)) S := fun i S => mod_pos (by decide)
  have m7 : ∀ (i : Int) (S : Store), binD false .fdiv (.int i) (.int 1000003) S = .ok (.int (i / 1000003)) S := fun i S => fdiv_pos (by decide) (by decide)
  have m8 : ∀ (i : Int) (S : Store), binD false .fdiv (.int i) (.int 64) S = .ok (.int (i / 64)) S := fun i S => fdiv_pos (by decide) (by decide)
  have m9 : ∀ (i : Int) (S : Store), binD false .mul (.int 48271) (.int i) S = .ok (.int (48271 * i)) S := fun i S => mul_posL (by decide) (by decide)
  have m10 : ∀ (i : Int) (S : Store), binD false .mul (.int i) (.int 48271) S = .ok (.int (i * 48271)) S := fun i S => mul_posR (by decide) (by decide)
  have m11 : ∀ (i : Int) (S : Store), binD false .mul (.int i) (.int (39373 + (c + 1))) S = .ok (.int (i * (39373 + (c + 1)))) S := fun i S => mul_posR (by omega) (by omega)
  have m12 : ∀ (i z : Int) (S : Store), binD false .mul (.int i) (.int (z % 40009 + 7)) S = .ok (.int (i * (z % 40009 + 7))) S := fun i z S => mul_posR (by omega) (by omega)
  by_cases ha : 0 < a
  · refine ⟨a % w, a / w, c, ?_, Int.emod_nonneg _ (by omega), Int.emod_lt_of_pos _ w0, Int.ediv_nonneg a0 (by omega), c0, by omega⟩
    simp only [b22, runB, ev_0A, ev_1A, ev_2A, ev_3A, ev_4A, ev_5A, ev_6A, ev_7A, ev_8A, ev_9A, ev_10A, ev_11A, ev_12A, ev_13A, ev_14A, ev_15A, ev_16A, ev_17A, ev_18A, ev_19A, ev_20A, ev_21A, evs_0A, evs_1A, evO_0A, evO_1A, evT_0A, evT_1A, evT_2A, evT_3A, evT_4A, evT_5A, evT_6A, evT_7A, evT_8A, evT_9A, evT_10A, evT_11A, evT_12A, evTs_0A, evTs_1A, evI_0A, evI_1A, evI_2A, evI_3A, evI_4A, evG_0A, evG_1A, evG_2A, evS_0A, evS_1A, evS_2A, evS_3A, evS_4A, evS_5A, evS_6A, evS_7A, evS_8A, evS_9A, evS_10A, bindO_ok, bindO_exn, bindO_bad, Res.bind_ok, Res.bind_exn, Res.bind_bad, Res.bindN_ok, optR_some, K0.d, EC, setN, setNs, wipeR, List.map_cons, List.map_nil, List.set_cons_zero, List.set_cons_succ, List.getElem?_cons_zero, List.getElem?_cons_succ, List.cons_append, List.nil_append, List.length_cons, List.length_nil, Option.map_some, Option.map_none, Nat.reduceAdd, Nat.reduceSub, Nat.reduceLeDiff, if_true, if_false, Bool.false_eq_true, List.replicate, evB_nil, evB_cons, seqO_nx, seqO_rt, seqO_exn, endD_exn, cmp_eq_int, cmp_ne_int, cmp_eq_bl, cmp_ne_bl, Bool.not_true, Bool.not_false, List.filterMap_cons, List.filterMap_nil, truth_bl, truth_int, truth_non, truth_tup, truth_lst, cmp_lt, cmp_le, cmp_gt, cmp_ge, cmp_in, cmp_inL, cmp_notin, ix_tup, ix_lst, ix_kl, add_int_true, sub_int_true, add_tup_true, pow_int_true, mul_tup_true, add_lst_true, sl_tup_true, sl_lst_true, sl_kl_true, len_tup_true, tuple_tup_true, list_tup_true, len_lst_true, tuple_lst_true, list_lst_true, len_kl_true, tuple_kl_true, list_kl_true, tuple_ref_true, int_int_true, int_bl_true, abs_int_true, all_lst_true, any_lst_true, sum_lst_true, max_lst_true, add_int_false, sub_int_false, add_tup_false, pow_int_false, mul_tup_false, add_lst_false, sl_tup_false, sl_lst_false, sl_kl_false, len_tup_false, tuple_tup_false, list_tup_false, len_lst_false, tuple_lst_false, list_lst_false, len_kl_false, tuple_kl_false, list_kl_false, tuple_ref_false, int_int_false, int_bl_false, abs_int_false, all_lst_false, any_lst_false, sum_lst_false, max_lst_false, newL_f, newL_t, sv_tup, sv_lst, sv_kl, se_tup, se_lst, se_kl, sz_tup, sz_lst, all_const, beq_self_eq_true, eq_self, decide_true, iD_len, in_iD, in_iDL, filter_tt, map_idd, atI_zero, blsOf_map, intsOf_map, all_map_id, cut_tail, is_int_n, isnot_int_n, is_bl_n, isnot_bl_n, is_str_n, isnot_str_n, is_tup_n, isnot_tup_n, is_lst_n, isnot_lst_n, is_kl_n, isnot_kl_n, is_non_n, isnot_non_n, is_bl_bl, seq_ref0, lst_ref0, own_ref0, truth_ref0, ix_ref0, app_ref0, tuple_ref0, len_ref0, set_ref0, isSome_some, atI_last, ix3_0, ix3_1, ix3_2, at3_1, at3_2, isi_non_int, isi_non_bl, isi_non_str, isi_non_tup, isi_non_lst, isi_non_lst_tup, isi_non_bl_str, isi_bl_int, isi_bl_bl, isi_bl_str, isi_bl_tup, isi_bl_lst, isi_bl_lst_tup, isi_bl_bl_str, isi_int_int, isi_int_bl, isi_int_str, isi_int_tup, isi_int_lst, isi_int_lst_tup, isi_int_bl_str, isi_str_int, isi_str_bl, isi_str_str, isi_str_tup, isi_str_lst, isi_str_lst_tup, isi_str_bl_str, isi_tup_int, isi_tup_bl, isi_tup_str, isi_tup_tup, isi_tup_lst, isi_tup_lst_tup, isi_tup_bl_str, isi_lst_int, isi_lst_bl, isi_lst_str, isi_lst_tup, isi_lst_lst, isi_lst_lst_tup, isi_lst_bl_str, isi_kl_int, isi_kl_bl, isi_kl_str, isi_kl_tup, isi_kl_lst, isi_kl_lst_tup, isi_kl_bl_str, endD_rt, endD_nx, seq_tupD, seq_lstD, mm_int, ha, m1, m2]
  · have key : ∀ Z, runB (C n) ⟨2, 6, false, b22⟩ [.ref 0, .int w] (.lst [.int a, .int b, .int c] :: R) = Z → ∃ r : Int, Z = .ok (.int (r % w)) (.lst [.int a, .int b, .int (c + 1)] :: R) := by
      intro Z hZ
      simp only [b22, runB, ev_0A, ev_1A, ev_2A, ev_3A, ev_4A, ev_5A, ev_6A, ev_7A, ev_8A, ev_9A, ev_10A, ev_11A, ev_12A, ev_13A, ev_14A, ev_15A, ev_16A, ev_17A, ev_18A, ev_19A, ev_20A, ev_21A, evs_0A, evs_1A, evO_0A, evO_1A, evT_0A, evT_1A, evT_2A, evT_3A, evT_4A, evT_5A, evT_6A, evT_7A, evT_8A, evT_9A, evT_10A, evT_11A, evT_12A, evTs_0A, evTs_1A, evI_0A, evI_1A, evI_2A, evI_3A, evI_4A, evG_0A, evG_1A, evG_2A, evS_0A, evS_1A, evS_2A, evS_3A, evS_4A, evS_5A, evS_6A, evS_7A, evS_8A, evS_9A, evS_10A, bindO_ok, bindO_exn, bindO_bad, Res.bind_ok, Res.bind_exn, Res.bind_bad, Res.bindN_ok, optR_some, K0.d, EC, setN, setNs, wipeR, List.map_cons, List.map_nil, List.set_cons_zero, List.set_cons_succ, List.getElem?_cons_zero, List.getElem?_cons_succ, List.cons_append, List.nil_append, List.length_cons, List.length_nil, Option.map_some, Option.map_none, Nat.reduceAdd, Nat.reduceSub, Nat.reduceLeDiff, if_true, if_false, Bool.false_eq_true, List.replicate, evB_nil, evB_cons, seqO_nx, seqO_rt, seqO_exn, endD_exn, cmp_eq_int, cmp_ne_int, cmp_eq_bl, cmp_ne_bl, Bool.not_true, Bool.not_false, List.filterMap_cons, List.filterMap_nil, truth_bl, truth_int, truth_non, truth_tup, truth_lst, cmp_lt, cmp_le, cmp_gt, cmp_ge, cmp_in, cmp_inL, cmp_notin, ix_tup, ix_lst, ix_kl, add_int_true, sub_int_true, add_tup_true, pow_int_true, mul_tup_true, add_lst_true, sl_tup_true, sl_lst_true, sl_kl_true, len_tup_true, tuple_tup_true, list_tup_true, len_lst_true, tuple_lst_true, list_lst_true, len_kl_true, tuple_kl_true, list_kl_true, tuple_ref_true, int_int_true, int_bl_true, abs_int_true, all_lst_true, any_lst_true, sum_lst_true, max_lst_true, add_int_false, sub_int_false, add_tup_false, pow_int_false, mul_tup_false, add_lst_false, sl_tup_false, sl_lst_false, sl_kl_false, len_tup_false, tuple_tup_false, list_tup_false, len_lst_false, tuple_lst_false, list_lst_false, len_kl_false, tuple_kl_false, list_kl_false, tuple_ref_false, int_int_false, int_bl_false, abs_int_false, all_lst_false, any_lst_false, sum_lst_false, max_lst_false, newL_f, newL_t, sv_tup, sv_lst, sv_kl, se_tup, se_lst, se_kl, sz_tup, sz_lst, all_const, beq_self_eq_true, eq_self, decide_true, iD_len, in_iD, in_iDL, filter_tt, map_idd, atI_zero, blsOf_map, intsOf_map, all_map_id, cut_tail, is_int_n, isnot_int_n, is_bl_n, isnot_bl_n, is_str_n, isnot_str_n, is_tup_n, isnot_tup_n, is_lst_n, isnot_lst_n, is_kl_n, isnot_kl_n, is_non_n, isnot_non_n, is_bl_bl, seq_ref0, lst_ref0, own_ref0, truth_ref0, ix_ref0, app_ref0, tuple_ref0, len_ref0, set_ref0, isSome_some, atI_last, ix3_0, ix3_1, ix3_2, at3_1, at3_2, isi_non_int, isi_non_bl, isi_non_str, isi_non_tup, isi_non_lst, isi_non_lst_tup, isi_non_bl_str, isi_bl_int, isi_bl_bl, isi_bl_str, isi_bl_tup, isi_bl_lst, isi_bl_lst_tup, isi_bl_bl_str, isi_int_int, isi_int_bl, isi_int_str, isi_int_tup, isi_int_lst, isi_int_lst_tup, isi_int_bl_str, isi_str_int, isi_str_bl, isi_str_str, isi_str_tup, isi_str_lst, isi_str_lst_tup, isi_str_bl_str, isi_tup_int, isi_tup_bl, isi_tup_str, isi_tup_tup, isi_tup_lst, isi_tup_lst_tup, isi_tup_bl_str, isi_lst_int, isi_lst_bl, isi_lst_str, isi_lst_tup, isi_lst_lst, isi_lst_lst_tup, isi_lst_bl_str, isi_kl_int, isi_kl_bl, isi_kl_str, isi_kl_tup, isi_kl_lst, isi_kl_lst_tup, isi_kl_bl_str, endD_rt, endD_nx, seq_tupD, seq_lstD, mm_int, ha, decide_false, m1, m3, m4, m5, m6, m7, m8, m9, m10, m11, m12] at hZ
      exact ⟨_, hZ.symm⟩
    obtain ⟨r, e⟩ := key _ rfl
    exact ⟨r % w, a, c + 1, e, Int.emod_nonneg _ (by omega), Int.emod_lt_of_pos _ w0, a0, by omega, by omega⟩
/-- kinds as drawn -/
theorem e_kinds {n m : Nat} {a b c : Int} {R : Store} (a0 : 0 ≤ a) (b0 : 0 ≤ b) (c0 : 0 ≤ c) (c1 : c < 900000000) (m0 : 1 ≤ m) (m1 : m ≤ 8) : ∃ ks a' c', E (n + 2) 27 [.ref 0, .int m] (boxD a b c :: R) = .ok (.tup (iD ks)) (boxD a' b c' :: R) ∧ isK ks = true ∧ ks.length ≤ m ∧ 0 ≤ a' ∧ 0 ≤ c' ∧ c' ≤ c + 9 := by
  have hE : E (n + 2) 27 [.ref 0, .int m] (boxD a b c :: R) = runB (C (n + 1)) d27.fd [.ref 0, .int m] (boxD a b c :: R) := callI rfl rfl rfl
  rw [hE]
  show ∃ ks a' c', runB (C (n + 1)) ⟨2, 3, false, b27⟩ _ _ = _ ∧ _
  obtain ⟨r, a1, c2, q1, r0, r1, a10, c20, c21⟩ := e_take (n := n) (w := m) a0 b0 c0 (by omega) (by omega) (by omega)
  have q1' : callN (tblOf tbl) (cnOf cis) 1000 (n + 1) 22 [.ref 0, .int m] (boxD a b c :: R) = .ok (.int r) (boxD a1 b c2 :: R) := q1
  have er : r = ((r.toNat : Nat) : Int) := by omega
  have sr : srcRange [.int r] = some (.rng 0 r.toNat) := by
    rw [er]
    exact sr_nat (by omega)
  obtain ⟨ys, S', e, acc, a3, c3, rfl, rfl, hl, ok, a30, c30, c31⟩ := lc_inv (src := .rng 0 r.toNat) (tg := evG (C (n + 1)) (.name 2)) (tt := evTs (C (n + 1)) .nil) (te := ev (C (n + 1)) (.call 22 (.cons (.var 0) (.cons (.bin false .add (.var 2) (.con (.int 1))) .nil)))) (ρ := [some (.ref 0), some (.int m), none]) (N := r.toNat)
    (fun i ys St => ∃ (acc : List Int) (a3 c3 : Int), ys = iD acc ∧ St = (boxD a3 b c3 :: R) ∧ acc.length = i ∧ okTail 0 acc = true ∧ 0 ≤ a3 ∧ 0 ≤ c3 ∧ c3 ≤ c2 + i)
    (by
      rintro i ys St hi ⟨acc, a3, c3, rfl, rfl, hl, ok, a30, c30, c31⟩
      obtain ⟨z, a4, c4, q2, z0, z1, a40, c40, c41⟩ := e_take (n := n) (a := a3) (b := b) (c := c3) (w := (i : Int) + 1) a30 b0 c30 (by omega) (by omega) (by omega)
      have q2' : callN (tblOf tbl) (cnOf cis) 1000 (n + 1) 22 [.ref 0, .int ((i : Int) + 1)] (boxD a3 b c3 :: R) = .ok (.int z) (boxD a4 b c4 :: R) := q2
      refine ⟨.int (i : Nat), [some (.ref 0), some (.int m), some (.int (i : Nat))], (boxD a3 b c3 :: R), true, (boxD a3 b c3 :: R), ?_, rfl, rfl, ?_⟩
      · rw [at_rng, List.getElem?_range hi]
        rfl
      · rw [if_pos rfl]
        refine ⟨.int z, (boxD a4 b c4 :: R), ?_, acc ++ [z], a4, c4, ?_, rfl, by simp [hl], ?_, a40, c40, by omega⟩
        · simp only [runB, ev_0A, ev_1A, ev_2A, ev_3A, ev_4A, ev_5A, ev_6A, ev_7A, ev_8A, ev_9A, ev_10A, ev_11A, ev_12A, ev_13A, ev_14A, ev_15A, ev_16A, ev_17A, ev_18A, ev_19A, ev_20A, ev_21A, evs_0A, evs_1A, evO_0A, evO_1A, evT_0A, evT_1A, evT_2A, evT_3A, evT_4A, evT_5A, evT_6A, evT_7A, evT_8A, evT_9A, evT_10A, evT_11A, evT_12A, evTs_0A, evTs_1A, evI_0A, evI_1A, evI_2A, evI_3A, evI_4A, evG_0A, evG_1A, evG_2A, evS_0A, evS_1A, evS_2A, evS_3A, evS_4A, evS_5A, evS_6A, evS_7A, evS_8A, evS_9A, evS_10A, bindO_ok, bindO_exn, bindO_bad, Res.bind_ok, Res.bind_exn, Res.bind_bad, Res.bindN_ok, optR_some, K0.d, EC, setN, setNs, wipeR, List.map_cons, List.map_nil, List.set_cons_zero, List.set_cons_succ, List.getElem?_cons_zero, List.getElem?_cons_succ, List.cons_append, List.nil_append, List.length_cons, List.length_nil, Option.map_some, Option.map_none, Nat.reduceAdd, Nat.reduceSub, Nat.reduceLeDiff, if_true, if_false, Bool.false_eq_true, List.replicate, evB_nil, evB_cons, seqO_nx, seqO_rt, seqO_exn, endD_exn, cmp_eq_int, cmp_ne_int, cmp_eq_bl, cmp_ne_bl, Bool.not_true, Bool.not_false, List.filterMap_cons, List.filterMap_nil, truth_bl, truth_int, truth_non, truth_tup, truth_lst, cmp_lt, cmp_le, cmp_gt, cmp_ge, cmp_in, cmp_inL, cmp_notin, ix_tup, ix_lst, ix_kl, add_int_true, sub_int_true, add_tup_true, pow_int_true, mul_tup_true, add_lst_true, sl_tup_true, sl_lst_true, sl_kl_true, len_tup_true, tuple_tup_true, list_tup_true, len_lst_true, tuple_lst_true, list_lst_true, len_kl_true, tuple_kl_true, list_kl_true, tuple_ref_true, int_int_true, int_bl_true, abs_int_true, all_lst_true, any_lst_true, sum_lst_true, max_lst_true, add_int_false, sub_int_false, add_tup_false, pow_int_false, mul_tup_false, add_lst_false, sl_tup_false, sl_lst_false, sl_kl_false, len_tup_false, tuple_tup_false, list_tup_false, len_lst_false, tuple_lst_false, list_lst_false, len_kl_false, tuple_kl_false, list_kl_false, tuple_ref_false, int_int_false, int_bl_false, abs_int_false, all_lst_false, any_lst_false, sum_lst_false, max_lst_false, newL_f, newL_t, sv_tup, sv_lst, sv_kl, se_tup, se_lst, se_kl, sz_tup, sz_lst, all_const, beq_self_eq_true, eq_self, decide_true, iD_len, in_iD, in_iDL, filter_tt, map_idd, atI_zero, blsOf_map, intsOf_map, all_map_id, cut_tail, is_int_n, isnot_int_n, is_bl_n, isnot_bl_n, is_str_n, isnot_str_n, is_tup_n, isnot_tup_n, is_lst_n, isnot_lst_n, is_kl_n, isnot_kl_n, is_non_n, isnot_non_n, is_bl_bl, seq_ref0, lst_ref0, own_ref0, truth_ref0, ix_ref0, app_ref0, tuple_ref0, len_ref0, set_ref0, isSome_some, atI_last, ix3_0, ix3_1, ix3_2, at3_1, at3_2, isi_non_int, isi_non_bl, isi_non_str, isi_non_tup, isi_non_lst, isi_non_lst_tup, isi_non_bl_str, isi_bl_int, isi_bl_bl, isi_bl_str, isi_bl_tup, isi_bl_lst, isi_bl_lst_tup, isi_bl_bl_str, isi_int_int, isi_int_bl, isi_int_str, isi_int_tup, isi_int_lst, isi_int_lst_tup, isi_int_bl_str, isi_str_int, isi_str_bl, isi_str_str, isi_str_tup, isi_str_lst, isi_str_lst_tup, isi_str_bl_str, isi_tup_int, isi_tup_bl, isi_tup_str, isi_tup_tup, isi_tup_lst, isi_tup_lst_tup, isi_tup_bl_str, isi_lst_int, isi_lst_bl, isi_lst_str, isi_lst_tup, isi_lst_lst, isi_lst_lst_tup, isi_lst_bl_str, isi_kl_int, isi_kl_bl, isi_kl_str, isi_kl_tup, isi_kl_lst, isi_kl_lst_tup, isi_kl_bl_str, endD_rt, endD_nx, seq_tupD, seq_lstD, mm_int, q2']
        · rw [iD_app]; rfl
        · have app : ∀ (l : List Int) (j : Nat), okTail j l = true → z < ((j + l.length : Nat) : Int) + 1 → okTail j (l ++ [z]) = true := by
            intro l
            induction l with
            | nil =>
              intro j _ hz
              simp only [List.nil_append, okTail, Bool.and_true, Bool.and_eq_true, decide_eq_true_eq]
              exact ⟨z0, by simpa using hz⟩
            | cons y l ih =>
              intro j hj hz
              simp only [List.cons_append, okTail, Bool.and_eq_true, decide_eq_true_eq] at hj ⊢
              exact ⟨hj.1, ih (j + 1) hj.2 (by simp only [List.length_cons] at hz; omega)⟩
          exact app acc 0 ok (by omega))
    (by
      rintro ys St ⟨acc, a3, c3, rfl, rfl, hl, ok, a30, c30, c31⟩
      rw [at_rng, List.getElem?_eq_none (by rw [List.length_range]; exact Nat.le_refl _)]
      rfl)
    1000 0 [] (boxD a1 b c2 :: R) (by omega) (by omega) ⟨[], a1, c2, rfl, rfl, rfl, rfl, a10, c20, by omega⟩
  refine ⟨-1 :: acc, a3, c3, ?_, ?_, by simp only [List.length_cons, hl]; omega, a30, c30, by omega⟩
  · simp only [b27, runB, ev_0A, ev_1A, ev_2A, ev_3A, ev_4A, ev_5A, ev_6A, ev_7A, ev_8A, ev_9A, ev_10A, ev_11A, ev_12A, ev_13A, ev_14A, ev_15A, ev_16A, ev_17A, ev_18A, ev_19A, ev_20A, ev_21A, evs_0A, evs_1A, evO_0A, evO_1A, evT_0A, evT_1A, evT_2A, evT_3A, evT_4A, evT_5A, evT_6A, evT_7A, evT_8A, evT_9A, evT_10A, evT_11A, evT_12A, evTs_0A, evTs_1A, evI_0A, evI_1A, evI_2A, evI_3A, evI_4A, evG_0A, evG_1A, evG_2A, evS_0A, evS_1A, evS_2A, evS_3A, evS_4A, evS_5A, evS_6A, evS_7A, evS_8A, evS_9A, evS_10A, bindO_ok, bindO_exn, bindO_bad, Res.bind_ok, Res.bind_exn, Res.bind_bad, Res.bindN_ok, optR_some, K0.d, EC, setN, setNs, wipeR, List.map_cons, List.map_nil, List.set_cons_zero, List.set_cons_succ, List.getElem?_cons_zero, List.getElem?_cons_succ, List.cons_append, List.nil_append, List.length_cons, List.length_nil, Option.map_some, Option.map_none, Nat.reduceAdd, Nat.reduceSub, Nat.reduceLeDiff, if_true, if_false, Bool.false_eq_true, List.replicate, evB_nil, evB_cons, seqO_nx, seqO_rt, seqO_exn, endD_exn, cmp_eq_int, cmp_ne_int, cmp_eq_bl, cmp_ne_bl, Bool.not_true, Bool.not_false, List.filterMap_cons, List.filterMap_nil, truth_bl, truth_int, truth_non, truth_tup, truth_lst, cmp_lt, cmp_le, cmp_gt, cmp_ge, cmp_in, cmp_inL, cmp_notin, ix_tup, ix_lst, ix_kl, add_int_true, sub_int_true, add_tup_true, pow_int_true, mul_tup_true, add_lst_true, sl_tup_true, sl_lst_true, sl_kl_true, len_tup_true, tuple_tup_true, list_tup_true, len_lst_true, tuple_lst_true, list_lst_true, len_kl_true, tuple_kl_true, list_kl_true, tuple_ref_true, int_int_true, int_bl_true, abs_int_true, all_lst_true, any_lst_true, sum_lst_true, max_lst_true, add_int_false, sub_int_false, add_tup_false, pow_int_false, mul_tup_false, add_lst_false, sl_tup_false, sl_lst_false, sl_kl_false, len_tup_false, tuple_tup_false, list_tup_false, len_lst_false, tuple_lst_false, list_lst_false, len_kl_false, tuple_kl_false, list_kl_false, tuple_ref_false, int_int_false, int_bl_false, abs_int_false, all_lst_false, any_lst_false, sum_lst_false, max_lst_false, newL_f, newL_t, sv_tup, sv_lst, sv_kl, se_tup, se_lst, se_kl, sz_tup, sz_lst, all_const, beq_self_eq_true, eq_self, decide_true, iD_len, in_iD, in_iDL, filter_tt, map_idd, atI_zero, blsOf_map, intsOf_map, all_map_id, cut_tail, is_int_n, isnot_int_n, is_bl_n, isnot_bl_n, is_str_n, isnot_str_n, is_tup_n, isnot_tup_n, is_lst_n, isnot_lst_n, is_kl_n, isnot_kl_n, is_non_n, isnot_non_n, is_bl_bl, seq_ref0, lst_ref0, own_ref0, truth_ref0, ix_ref0, app_ref0, tuple_ref0, len_ref0, set_ref0, isSome_some, atI_last, ix3_0, ix3_1, ix3_2, at3_1, at3_2, isi_non_int, isi_non_bl, isi_non_str, isi_non_tup, isi_non_lst, isi_non_lst_tup, isi_non_bl_str, isi_bl_int, isi_bl_bl, isi_bl_str, isi_bl_tup, isi_bl_lst, isi_bl_lst_tup, isi_bl_bl_str, isi_int_int, isi_int_bl, isi_int_str, isi_int_tup, isi_int_lst, isi_int_lst_tup, isi_int_bl_str, isi_str_int, isi_str_bl, isi_str_str, isi_str_tup, isi_str_lst, isi_str_lst_tup, isi_str_bl_str, isi_tup_int, isi_tup_bl, isi_tup_str, isi_tup_tup, isi_tup_lst, isi_tup_lst_tup, isi_tup_bl_str, isi_lst_int, isi_lst_bl, isi_lst_str, isi_lst_tup, isi_lst_lst, isi_lst_lst_tup, isi_lst_bl_str, isi_kl_int, isi_kl_bl, isi_kl_str, isi_kl_tup, isi_kl_lst, isi_kl_lst_tup, isi_kl_bl_str, endD_rt, endD_nx, seq_tupD, seq_lstD, mm_int, q1', sr, e, Int.reduceNeg]
    rw [if_pos (by rw [hl]; omega)]
    rfl
  · simp only [isK, ok, decide_true, Bool.and_true, decide_eq_true_eq]
    omega
/-! ### the first box -/
theorem e_cells {n : Nat} {ns : List Int} (hn : ns.length ≤ 63) {S : Store} : ∃ v : Int, E (n + 1) 23 [.kl (iD ns), .int 1] S = .ok (.lst [.int v]) S := by
  cases ns with
  | nil => exact ⟨0, rfl⟩
  | cons x r =>
    have loop := for_inv (src := .enum (iD (cutD (x :: r) (some 1) (some 63)))) (tg := evG (C n) (.tup [3, 4])) (N := (cutD (x :: r) (some 1) (some 63)).length)
      (tb := evB (C n) (.cons (.asg (.name 5) (.bin false .mod (.bcall false .int (.var 3)) (.var 1))) (.cons (.asg (.ix (.var 2) (.var 5)) (.bin false .add (.ix (.var 2) (.var 5)) (.bin false .mul (.var 4) (.bin false .add (.var 3) (.con (.int 2)))))) .nil)))
      (fun i ρ St => ∃ (y3 y4 y5 : Option D) (v : Int), ρ = [some (.kl (iD (x :: r))), some (.int 1), some (.ref 0), y3, y4, y5] ∧ St = [.lst [.int v]])
      (fun o => ∃ (y3 y4 y5 : Option D) (v : Int), o = .nx [some (.kl (iD (x :: r))), some (.int 1), some (.ref 0), y3, y4, y5] [.lst [.int v]])
      (by
        rintro i ρ St hi ⟨y3, y4, y5, v, rfl, rfl⟩
        have hl : i < 63 := by
          have := cutD_le (x :: r) (some 1) (some 63)
          omega
        have z : (cutD (x :: r) (some 1) (some 63))[i]? = some ((cutD (x :: r) (some 1) (some 63))[i]) := List.getElem?_eq_getElem hi
        refine ⟨.tup [.int (i : Nat), .int ((cutD (x :: r) (some 1) (some 63))[i])], [some (.kl (iD (x :: r))), some (.int 1), some (.ref 0), some (.int (i : Nat)), some (.int ((cutD (x :: r) (some 1) (some 63))[i])), y5], [.lst [.int v]], ?_, rfl, ?_⟩
        · rw [at_enum, List.getElem?_zipIdx, z]
          simp
        · have m1 : ∀ (j : Int) (S : Store), binD false .mod (.int j) (.int 1) S = .ok (.int 0) S := fun j S => by
            have q := mod_pos (S := S) (i := j) (m := false) (show (0 : Int) < 1 by decide)
            rw [Int.emod_one] at q
            exact q
          have m2 : ∀ (j : Int) (S : Store), binD false .mul (.int j) (.int ((i : Int) + 2)) S = .ok (.int (j * ((i : Int) + 2))) S := fun j S => mul_posR (by omega) (by omega)
          have s1 : L2.ixN 1 0 = some 0 := rfl
          simp only [runB, ev_0A, ev_1A, ev_2A, ev_3A, ev_4A, ev_5A, ev_6A, ev_7A, ev_8A, ev_9A, ev_10A, ev_11A, ev_12A, ev_13A, ev_14A, ev_15A, ev_16A, ev_17A, ev_18A, ev_19A, ev_20A, ev_21A, evs_0A, evs_1A, evO_0A, evO_1A, evT_0A, evT_1A, evT_2A, evT_3A, evT_4A, evT_5A, evT_6A, evT_7A, evT_8A, evT_9A, evT_10A, evT_11A, evT_12A, evTs_0A, evTs_1A, evI_0A, evI_1A, evI_2A, evI_3A, evI_4A, evG_0A, evG_1A, evG_2A, evS_0A, evS_1A, evS_2A, evS_3A, evS_4A, evS_5A, evS_6A, evS_7A, evS_8A, evS_9A, evS_10A, bindO_ok, bindO_exn, bindO_bad, Res.bind_ok, Res.bind_exn, Res.bind_bad, Res.bindN_ok, optR_some, K0.d, EC, setN, setNs, wipeR, List.map_cons, List.map_nil, List.set_cons_zero, List.set_cons_succ, List.getElem?_cons_zero, List.getElem?_cons_succ, List.cons_append, List.nil_append, List.length_cons, List.length_nil, Option.map_some, Option.map_none, Nat.reduceAdd, Nat.reduceSub, Nat.reduceLeDiff, if_true, if_false, Bool.false_eq_true, List.replicate, evB_nil, evB_cons, seqO_nx, seqO_rt, seqO_exn, endD_exn, cmp_eq_int, cmp_ne_int, cmp_eq_bl, cmp_ne_bl, Bool.not_true, Bool.not_false, List.filterMap_cons, List.filterMap_nil, truth_bl, truth_int, truth_non, truth_tup, truth_lst, cmp_lt, cmp_le, cmp_gt, cmp_ge, cmp_in, cmp_inL, cmp_notin, ix_tup, ix_lst, ix_kl, add_int_true, sub_int_true, add_tup_true, pow_int_true, mul_tup_true, add_lst_true, sl_tup_true, sl_lst_true, sl_kl_true, len_tup_true, tuple_tup_true, list_tup_true, len_lst_true, tuple_lst_true, list_lst_true, len_kl_true, tuple_kl_true, list_kl_true, tuple_ref_true, int_int_true, int_bl_true, abs_int_true, all_lst_true, any_lst_true, sum_lst_true, max_lst_true, add_int_false, sub_int_false, add_tup_false, pow_int_false, mul_tup_false, add_lst_false, sl_tup_false, sl_lst_false, sl_kl_false, len_tup_false, tuple_tup_false, list_tup_false, len_lst_false, tuple_lst_false, list_lst_false, len_kl_false, tuple_kl_false, list_kl_false, tuple_ref_false, int_int_false, int_bl_false, abs_int_false, all_lst_false, any_lst_false, sum_lst_false, max_lst_false, newL_f, newL_t, sv_tup, sv_lst, sv_kl, se_tup, se_lst, se_kl, sz_tup, sz_lst, all_const, beq_self_eq_true, eq_self, decide_true, iD_len, in_iD, in_iDL, filter_tt, map_idd, atI_zero, blsOf_map, intsOf_map, all_map_id, cut_tail, is_int_n, isnot_int_n, is_bl_n, isnot_bl_n, is_str_n, isnot_str_n, is_tup_n, isnot_tup_n, is_lst_n, isnot_lst_n, is_kl_n, isnot_kl_n, is_non_n, isnot_non_n, is_bl_bl, seq_ref0, lst_ref0, own_ref0, truth_ref0, ix_ref0, app_ref0, tuple_ref0, len_ref0, set_ref0, isSome_some, atI_last, ix3_0, ix3_1, ix3_2, at3_1, at3_2, isi_non_int, isi_non_bl, isi_non_str, isi_non_tup, isi_non_lst, isi_non_lst_tup, isi_non_bl_str, isi_bl_int, isi_bl_bl, isi_bl_str, isi_bl_tup, isi_bl_lst, isi_bl_lst_tup, isi_bl_bl_str, isi_int_int, isi_int_bl, isi_int_str, isi_int_tup, isi_int_lst, isi_int_lst_tup, isi_int_bl_str, isi_str_int, isi_str_bl, isi_str_str, isi_str_tup, isi_str_lst, isi_str_lst_tup, isi_str_bl_str, isi_tup_int, isi_tup_bl, isi_tup_str, isi_tup_tup, isi_tup_lst, isi_tup_lst_tup, isi_tup_bl_str, isi_lst_int, isi_lst_bl, isi_lst_str, isi_lst_tup, isi_lst_lst, isi_lst_lst_tup, isi_lst_bl_str, isi_kl_int, isi_kl_bl, isi_kl_str, isi_kl_tup, isi_kl_lst, isi_kl_lst_tup, isi_kl_bl_str, endD_rt, endD_nx, seq_tupD, seq_lstD, mm_int, m1, m2, s1]
          exact ⟨_, _, _, _, rfl, rfl⟩)
      (by
        rintro ρ St ⟨y3, y4, y5, v, rfl, rfl⟩
        refine ⟨?_, y3, y4, y5, v, rfl⟩
        rw [at_enum, List.getElem?_eq_none (by rw [List.length_zipIdx]; exact Nat.le_refl _)]
        rfl)
      1000 0 [some (.kl (iD (x :: r))), some (.int 1), some (.ref 0), none, none, none] [.lst [.int x]] (by have := cutD_le (x :: r) (some 1) (some 63); omega) (by omega) ⟨none, none, none, x, rfl, rfl⟩
    obtain ⟨y3, y4, y5, v, e⟩ := loop
    refine ⟨v, callPf (fd := d23.fd) (r := .ref 0) rfl rfl rfl (by simp only [D.pures, D.pure, Bool.and_true]; exact iD_pures (x :: r)) (S1 := [.lst [.int v]]) ?_ rfl⟩
    show runB (C n) ⟨2, 6, true, b23⟩ _ _ = _
    have c1 : cutD (iD (x :: r)) none (some 1) = [.int x] := cut_one
    have tr : truth [SO.lst [.int x]] (.ref 0) = some true := rfl
    simp only [b23, runB, ev_0A, ev_1A, ev_2A, ev_3A, ev_4A, ev_5A, ev_6A, ev_7A, ev_8A, ev_9A, ev_10A, ev_11A, ev_12A, ev_13A, ev_14A, ev_15A, ev_16A, ev_17A, ev_18A, ev_19A, ev_20A, ev_21A, evs_0A, evs_1A, evO_0A, evO_1A, evT_0A, evT_1A, evT_2A, evT_3A, evT_4A, evT_5A, evT_6A, evT_7A, evT_8A, evT_9A, evT_10A, evT_11A, evT_12A, evTs_0A, evTs_1A, evI_0A, evI_1A, evI_2A, evI_3A, evI_4A, evG_0A, evG_1A, evG_2A, evS_0A, evS_1A, evS_2A, evS_3A, evS_4A, evS_5A, evS_6A, evS_7A, evS_8A, evS_9A, evS_10A, bindO_ok, bindO_exn, bindO_bad, Res.bind_ok, Res.bind_exn, Res.bind_bad, Res.bindN_ok, optR_some, K0.d, EC, setN, setNs, wipeR, List.map_cons, List.map_nil, List.set_cons_zero, List.set_cons_succ, List.getElem?_cons_zero, List.getElem?_cons_succ, List.cons_append, List.nil_append, List.length_cons, List.length_nil, Option.map_some, Option.map_none, Nat.reduceAdd, Nat.reduceSub, Nat.reduceLeDiff, if_true, if_false, Bool.false_eq_true, List.replicate, evB_nil, evB_cons, seqO_nx, seqO_rt, seqO_exn, endD_exn, cmp_eq_int, cmp_ne_int, cmp_eq_bl, cmp_ne_bl, Bool.not_true, Bool.not_false, List.filterMap_cons, List.filterMap_nil, truth_bl, truth_int, truth_non, truth_tup, truth_lst, cmp_lt, cmp_le, cmp_gt, cmp_ge, cmp_in, cmp_inL, cmp_notin, ix_tup, ix_lst, ix_kl, add_int_true, sub_int_true, add_tup_true, pow_int_true, mul_tup_true, add_lst_true, sl_tup_true, sl_lst_true, sl_kl_true, len_tup_true, tuple_tup_true, list_tup_true, len_lst_true, tuple_lst_true, list_lst_true, len_kl_true, tuple_kl_true, list_kl_true, tuple_ref_true, int_int_true, int_bl_true, abs_int_true, all_lst_true, any_lst_true, sum_lst_true, max_lst_true, add_int_false, sub_int_false, add_tup_false, pow_int_false, mul_tup_false, add_lst_false, sl_tup_false, sl_lst_false, sl_kl_false, len_tup_false, tuple_tup_false, list_tup_false, len_lst_false, tuple_lst_false, list_lst_false, len_kl_false, tuple_kl_false, list_kl_false, tuple_ref_false, int_int_false, int_bl_false, abs_int_false, all_lst_false, any_lst_false, sum_lst_false, max_lst_false, newL_f, newL_t, sv_tup, sv_lst, sv_kl, se_tup, se_lst, se_kl, sz_tup, sz_lst, all_const, beq_self_eq_true, eq_self, decide_true, iD_len, in_iD, in_iDL, filter_tt, map_idd, atI_zero, blsOf_map, intsOf_map, all_map_id, cut_tail, is_int_n, isnot_int_n, is_bl_n, isnot_bl_n, is_str_n, isnot_str_n, is_tup_n, isnot_tup_n, is_lst_n, isnot_lst_n, is_kl_n, isnot_kl_n, is_non_n, isnot_non_n, is_bl_bl, seq_ref0, lst_ref0, own_ref0, truth_ref0, ix_ref0, app_ref0, tuple_ref0, len_ref0, set_ref0, isSome_some, atI_last, ix3_0, ix3_1, ix3_2, at3_1, at3_2, isi_non_int, isi_non_bl, isi_non_str, isi_non_tup, isi_non_lst, isi_non_lst_tup, isi_non_bl_str, isi_bl_int, isi_bl_bl, isi_bl_str, isi_bl_tup, isi_bl_lst, isi_bl_lst_tup, isi_bl_bl_str, isi_int_int, isi_int_bl, isi_int_str, isi_int_tup, isi_int_lst, isi_int_lst_tup, isi_int_bl_str, isi_str_int, isi_str_bl, isi_str_str, isi_str_tup, isi_str_lst, isi_str_lst_tup, isi_str_bl_str, isi_tup_int, isi_tup_bl, isi_tup_str, isi_tup_tup, isi_tup_lst, isi_tup_lst_tup, isi_tup_bl_str, isi_lst_int, isi_lst_bl, isi_lst_str, isi_lst_tup, isi_lst_lst, isi_lst_lst_tup, isi_lst_bl_str, isi_kl_int, isi_kl_bl, isi_kl_str, isi_kl_tup, isi_kl_lst, isi_kl_lst_tup, isi_kl_bl_str, endD_rt, endD_nx, seq_tupD, seq_lstD, mm_int, c1, tr, cut_iD, e]
theorem e_box {n : Nat} {v : Int} : ∃ a b : Int, 0 ≤ a ∧ 0 ≤ b ∧ E (n + 1) 21 [.lst [.int v], .int 0] [] = .ok (.ref 0) [boxD a b 0] := by
  have hE : E (n + 1) 21 [.lst [.int v], .int 0] [] = runB (C n) d21.fd [.lst [.int v], .int 0] [] := callI rfl rfl rfl
  rw [hE]
  show ∃ a b, _ ∧ _ ∧ runB (C n) ⟨2, 3, false, b21⟩ _ _ = _
  have m1 : ∀ (i : Int) (S : Store), binD false .mod (.int i) (.int 2305843009213693951) S = .ok (.int (i % 2305843009213693951)) S := fun i S => mod_pos (by decide)
  have m2 : ∀ (S : Store), binD false .pow (.int 10) (.int 18) S = .ok (.int 1000000000000000000) S := fun S => rfl
  have m3 : ∀ (S : Store), binD false .mul (.int 39373) (.int 0) S = .ok (.int 0) S := fun S => rfl
  have m4 : ∀ (i : Int) (k : Bool) (S : Store), binD false .mul (.int i) (.int (if k = true then 1 else 0)) S = .ok (.int (i * if k = true then 1 else 0)) S := fun i k S => by
    cases k <;> exact mul_posR (by decide) (by decide)
  refine ⟨(if v < 0 then -v else v) * (if decide (1000000000000000000 ≤ (if v < 0 then -v else v)) = true then 1 else 0), v % 2305843009213693951 + 0 + 25178040, ?_, ?_, ?_⟩
  · split <;> split <;> simp <;> omega
  · omega
  · have z : ∀ (S : Store), ixD (.lst [.int v]) (.int 0) S = some (.int v) := fun S => rfl
    have h1 : decide ((0 : Int) < ((1 : Nat) : Int)) = true := rfl
    simp only [b21, runB, ev_0A, ev_1A, ev_2A, ev_3A, ev_4A, ev_5A, ev_6A, ev_7A, ev_8A, ev_9A, ev_10A, ev_11A, ev_12A, ev_13A, ev_14A, ev_15A, ev_16A, ev_17A, ev_18A, ev_19A, ev_20A, ev_21A, evs_0A, evs_1A, evO_0A, evO_1A, evT_0A, evT_1A, evT_2A, evT_3A, evT_4A, evT_5A, evT_6A, evT_7A, evT_8A, evT_9A, evT_10A, evT_11A, evT_12A, evTs_0A, evTs_1A, evI_0A, evI_1A, evI_2A, evI_3A, evI_4A, evG_0A, evG_1A, evG_2A, evS_0A, evS_1A, evS_2A, evS_3A, evS_4A, evS_5A, evS_6A, evS_7A, evS_8A, evS_9A, evS_10A, bindO_ok, bindO_exn, bindO_bad, Res.bind_ok, Res.bind_exn, Res.bind_bad, Res.bindN_ok, optR_some, K0.d, EC, setN, setNs, wipeR, List.map_cons, List.map_nil, List.set_cons_zero, List.set_cons_succ, List.getElem?_cons_zero, List.getElem?_cons_succ, List.cons_append, List.nil_append, List.length_cons, List.length_nil, Option.map_some, Option.map_none, Nat.reduceAdd, Nat.reduceSub, Nat.reduceLeDiff, if_true, if_false, Bool.false_eq_true, List.replicate, evB_nil, evB_cons, seqO_nx, seqO_rt, seqO_exn, endD_exn, cmp_eq_int, cmp_ne_int, cmp_eq_bl, cmp_ne_bl, Bool.not_true, Bool.not_false, List.filterMap_cons, List.filterMap_nil, truth_bl, truth_int, truth_non, truth_tup, truth_lst, cmp_lt, cmp_le, cmp_gt, cmp_ge, cmp_in, cmp_inL, cmp_notin, ix_tup, ix_lst, ix_kl, add_int_true, sub_int_true, add_tup_true, pow_int_true, mul_tup_true, add_lst_true, sl_tup_true, sl_lst_true, sl_kl_true, len_tup_true, tuple_tup_true, list_tup_true, len_lst_true, tuple_lst_true, list_lst_true, len_kl_true, tuple_kl_true, list_kl_true, tuple_ref_true, int_int_true, int_bl_true, abs_int_true, all_lst_true, any_lst_true, sum_lst_true, max_lst_true, add_int_false, sub_int_false, add_tup_false, pow_int_false, mul_tup_false, add_lst_false, sl_tup_false, sl_lst_false, sl_kl_false, len_tup_false, tuple_tup_false, list_tup_false, len_lst_false, tuple_lst_false, list_lst_false, len_kl_false, tuple_kl_false, list_kl_false, tuple_ref_false, int_int_false, int_bl_false, abs_int_false, all_lst_false, any_lst_false, sum_lst_false, max_lst_false, newL_f, newL_t, sv_tup, sv_lst, sv_kl, se_tup, se_lst, se_kl, sz_tup, sz_lst, all_const, beq_self_eq_true, eq_self, decide_true, iD_len, in_iD, in_iDL, filter_tt, map_idd, atI_zero, blsOf_map, intsOf_map, all_map_id, cut_tail, is_int_n, isnot_int_n, is_bl_n, isnot_bl_n, is_str_n, isnot_str_n, is_tup_n, isnot_tup_n, is_lst_n, isnot_lst_n, is_kl_n, isnot_kl_n, is_non_n, isnot_non_n, is_bl_bl, seq_ref0, lst_ref0, own_ref0, truth_ref0, ix_ref0, app_ref0, tuple_ref0, len_ref0, set_ref0, isSome_some, atI_last, ix3_0, ix3_1, ix3_2, at3_1, at3_2, isi_non_int, isi_non_bl, isi_non_str, isi_non_tup, isi_non_lst, isi_non_lst_tup, isi_non_bl_str, isi_bl_int, isi_bl_bl, isi_bl_str, isi_bl_tup, isi_bl_lst, isi_bl_lst_tup, isi_bl_bl_str, isi_int_int, isi_int_bl, isi_int_str, isi_int_tup, isi_int_lst, isi_int_lst_tup, isi_int_bl_str, isi_str_int, isi_str_bl, isi_str_str, isi_str_tup, isi_str_lst, isi_str_lst_tup, isi_str_bl_str, isi_tup_int, isi_tup_bl, isi_tup_str, isi_tup_tup, isi_tup_lst, isi_tup_lst_tup, isi_tup_bl_str, isi_lst_int, isi_lst_bl, isi_lst_str, isi_lst_tup, isi_lst_lst, isi_lst_lst_tup, isi_lst_bl_str, isi_kl_int, isi_kl_bl, isi_kl_str, isi_kl_tup, isi_kl_lst, isi_kl_lst_tup, isi_kl_bl_str, endD_rt, endD_nx, seq_tupD, seq_lstD, mm_int, z, m1, m2, m3, m4, h1]
    rfl
/-! ### the plain law of lines -/
section
variable {ks : List Int} (h : isK ks = true)
include h
theorem line_ind {P : Int → Prop} (step : ∀ k : Int, 0 ≤ k → k < (ks.length : Int) → (0 ≤ par ks k → P (par ks k)) → P k) : ∀ (f : Nat) (k : Int), 0 ≤ k → k < ks.length → k < f → P k
  | 0, k, h0, _, h2 => by omega
  | f + 1, k, h0, h1, h2 => step k h0 h1 fun hp => line_ind step f (par ks k) hp (by have := isK_par h h0 h1; omega) (by have := isK_par h h0 h1; omega)
theorem line_mem {k : Int} (h0 : 0 ≤ k) (h1 : k < ks.length) : ∀ x ∈ line ks k, 0 ≤ x ∧ x ≤ k := by
  refine line_ind h (P := fun k => ∀ x ∈ line ks k, 0 ≤ x ∧ x ≤ k) (fun k h0 h1 ih x hx => ?_) ks.length k h0 h1 h1
  have p := isK_par h h0 h1
  rw [line_step h h0 h1] at hx
  rcases List.mem_cons.mp hx with e | hx
  · omega
  · by_cases hp : 0 ≤ par ks k
    · have := ih hp x hx
      omega
    · rw [line_neg (by omega)] at hx
      cases hx
theorem line_self {k : Int} (h0 : 0 ≤ k) (h1 : k < ks.length) : k ∈ line ks k := by
  rw [line_step h h0 h1]
  exact List.mem_cons_self
theorem line_zero {k : Int} (h0 : 0 ≤ k) (h1 : k < ks.length) : 0 ∈ line ks k := by
  refine line_ind h (P := fun k => 0 ∈ line ks k) (fun k h0 h1 ih => ?_) ks.length k h0 h1 h1
  by_cases e : k = 0
  · subst e
    exact line_self h h0 h1
  · rw [line_step h h0 h1]
    have hp : 0 ≤ par ks k := by
      have hk : isK ks = true := h
      unfold isK at hk
      cases ks with
      | nil => cases hk
      | cons a r =>
        simp only [Bool.and_eq_true, decide_eq_true_eq] at hk
        have e2 : k.toNat = (k.toNat - 1) + 1 := by omega
        have hl : k.toNat - 1 < r.length := by simp at h1; omega
        have q := okTail_get r 0 (k.toNat - 1) hk.2 hl
        unfold par
        rw [e2, List.getD_cons_succ]
        exact q.1
    exact List.mem_cons_of_mem _ (ih hp)
theorem line_len_le {k : Int} (h0 : 0 ≤ k) (h1 : k < ks.length) : ∀ x ∈ line ks k, (line ks x).length ≤ (line ks k).length ∧ (x ≠ k → (line ks x).length < (line ks k).length) := by
  refine line_ind h (P := fun k => ∀ x ∈ line ks k, (line ks x).length ≤ (line ks k).length ∧ (x ≠ k → (line ks x).length < (line ks k).length)) (fun k h0 h1 ih x hx => ?_) ks.length k h0 h1 h1
  have e := line_step h h0 h1
  have hx2 := hx
  rw [e] at hx2
  rcases List.mem_cons.mp hx2 with e2 | hx2
  · subst e2
    exact ⟨Nat.le_refl _, fun z => absurd rfl z⟩
  · by_cases hp : 0 ≤ par ks k
    · have q := (ih hp x hx2).1
      rw [e, List.length_cons]
      exact ⟨by omega, fun _ => by omega⟩
    · rw [line_neg (by omega)] at hx2
      cases hx2
theorem line_sub {k : Int} (h0 : 0 ≤ k) (h1 : k < ks.length) : ∀ x ∈ line ks k, ∀ y ∈ line ks x, y ∈ line ks k := by
  refine line_ind h (P := fun k => ∀ x ∈ line ks k, ∀ y ∈ line ks x, y ∈ line ks k) (fun k h0 h1 ih x hx y hy => ?_) ks.length k h0 h1 h1
  have e := line_step h h0 h1
  have hx2 := hx
  rw [e] at hx2
  rcases List.mem_cons.mp hx2 with e2 | hx2
  · subst e2
    exact hy
  · by_cases hp : 0 ≤ par ks k
    · rw [e]
      exact List.mem_cons_of_mem _ (ih hp x hx2 y hy)
    · rw [line_neg (by omega)] at hx2
      cases hx2
theorem line_desc {k : Int} (h0 : 0 ≤ k) (h1 : k < ks.length) : (line ks k).Pairwise (· > ·) := by
  refine line_ind h (P := fun k => (line ks k).Pairwise (· > ·)) (fun k h0 h1 ih => ?_) ks.length k h0 h1 h1
  have p := isK_par h h0 h1
  rw [line_step h h0 h1]
  refine List.pairwise_cons.mpr ⟨fun x hx => ?_, ?_⟩
  · by_cases hp : 0 ≤ par ks k
    · have := line_mem h hp (by omega) x hx
      omega
    · rw [line_neg (by omega)] at hx
      cases hx
  · by_cases hp : 0 ≤ par ks k
    · exact ih hp
    · rw [line_neg (by omega)]
      exact List.Pairwise.nil
/-- the first common one -/
theorem both_head {a b : Int} (a0 : 0 ≤ a) (a1 : a < ks.length) (x : Int) (hx : x ∈ line ks a) (hx2 : x ∈ line ks b) : ∃ m r, both ks a b = m :: r ∧ m ∈ line ks a ∧ m ∈ line ks b ∧ ∀ y ∈ both ks a b, y ∈ line ks m := by
  revert hx
  refine line_ind h (P := fun a => x ∈ line ks a → ∃ m r, both ks a b = m :: r ∧ m ∈ line ks a ∧ m ∈ line ks b ∧ ∀ y ∈ both ks a b, y ∈ line ks m) (fun a a0 a1 ih hx => ?_) ks.length a a0 a1 a1
  have e := line_step h a0 a1
  by_cases hb : a ∈ line ks b
  · have eb : both ks a b = a :: (line ks (par ks a)).filter fun x => decide (x ∈ line ks b) := by
      unfold both
      rw [e, List.filter_cons, if_pos (decide_eq_true hb)]
    exact ⟨a, _, eb, line_self h a0 a1, hb, fun y hy => (List.mem_filter.mp hy).1⟩
  · have eb : both ks a b = both ks (par ks a) b := by
      unfold both
      rw [e, List.filter_cons, if_neg (by rw [decide_eq_true_eq]; exact hb)]
    rw [e] at hx
    rcases List.mem_cons.mp hx with e2 | hx
    · subst e2
      exact absurd hx2 hb
    · by_cases hp : 0 ≤ par ks a
      · obtain ⟨m, r, q1, q2, q3, q4⟩ := ih hp hx
        rw [eb]
        exact ⟨m, r, q1, by rw [e]; exact List.mem_cons_of_mem _ q2, q3, q4⟩
      · rw [line_neg (by omega)] at hx
        cases hx
theorem maxI_eq : ∀ (l : List Int) (M : Int), (∀ y ∈ l, y ≤ M) → M ∈ l → maxI l = M := by
  have fold : ∀ (l : List Int) (x : Int) (M : Int), x ≤ M → (∀ y ∈ l, y ≤ M) → (x = M ∨ M ∈ l) → l.foldl (fun a b => if b > a then b else a) x = M := by
    intro l
    induction l with
    | nil => intro x M _ _ hm; rcases hm with e | hm; exact e; cases hm
    | cons z l ih =>
      intro x M hx hl hm
      have hz := hl z List.mem_cons_self
      rw [List.foldl_cons]
      refine ih _ M (by split <;> assumption) (fun y hy => hl y (List.mem_cons_of_mem _ hy)) ?_
      rcases hm with e | hm
      · subst e
        rw [if_neg (by omega)]
        exact .inl rfl
      · rcases List.mem_cons.mp hm with e | hm
        · subst e
          by_cases q : M > x
          · rw [if_pos q]; exact .inl rfl
          · rw [if_neg q]; exact .inl (by omega)
        · exact .inr hm
  intro l M hl hm
  cases l with
  | nil => cases hm
  | cons x l =>
    refine fold l x M (hl x List.mem_cons_self) (fun y hy => hl y (List.mem_cons_of_mem _ hy)) ?_
    rcases List.mem_cons.mp hm with e | hm
    · exact .inl e.symm
    · exact .inr hm
theorem both_law {a b : Int} (a0 : 0 ≤ a) (a1 : a < ks.length) (b0 : 0 ≤ b) (b1 : b < ks.length) : ∃ m r r', both ks a b = m :: r ∧ both ks b a = m :: r' ∧
    (both ks a b).filter (fun x => decide (((line ks x).length : Int) = maxI ((both ks a b).map fun j => ((line ks j).length : Int)))) = [m] ∧ ∀ y ∈ both ks a b, 0 ≤ y ∧ y < ks.length := by
  obtain ⟨m, r, e1, ma, mb, hm⟩ := both_head h (b := b) a0 a1 0 (line_zero h a0 a1) (line_zero h b0 b1)
  obtain ⟨m', r', e2, mb', ma', hm'⟩ := both_head h (b := a) b0 b1 0 (line_zero h b0 b1) (line_zero h a0 a1)
  have m0 := line_mem h a0 a1 m ma
  have m0' := line_mem h b0 b1 m' mb'
  have in1 : m' ∈ both ks a b := List.mem_filter.mpr ⟨ma', decide_eq_true mb'⟩
  have in2 : m ∈ both ks b a := List.mem_filter.mpr ⟨mb, decide_eq_true ma⟩
  have k1 := line_mem h m0.1 (by omega) m' (hm m' in1)
  have k2 := line_mem h m0'.1 (by omega) m (hm' m in2)
  have em : m = m' := by omega
  subst em
  have mx : maxI ((both ks a b).map fun j => ((line ks j).length : Int)) = (line ks m).length := by
    refine maxI_eq h _ _ (fun y hy => ?_) ?_
    · obtain ⟨x, hx, rfl⟩ := List.mem_map.mp hy
      have := (line_len_le h m0.1 (by omega) x (hm x hx)).1
      omega
    · exact List.mem_map.mpr ⟨m, by rw [e1]; exact List.mem_cons_self, rfl⟩
  refine ⟨m, r, r', e1, e2, ?_, fun y hy => ?_⟩
  · rw [mx]
    have pw : (both ks a b).Pairwise (· > ·) := (line_desc h a0 a1).filter _
    rw [e1] at pw hm ⊢
    rw [List.filter_cons, if_pos (decide_eq_true rfl)]
    have : (r.filter fun x => decide (((line ks x).length : Int) = (line ks m).length)) = [] := by
      refine List.filter_eq_nil_iff.mpr fun x hx q => ?_
      have q := of_decide_eq_true q
      have lt := (List.pairwise_cons.mp pw).1 x hx
      have := (line_len_le h m0.1 (by omega) x (hm x (List.mem_cons_of_mem _ hx))).2 (by omega)
      omega
    rw [this]
  · have := line_mem h a0 a1 y (List.mem_filter.mp hy).1
    omega
end
end K40
namespace K40
open PySem DL
theorem at_zipI {ks js : List Int} {S : Store} (i : Nat) : (Src.zip (iD ks) (iD js)).at i S = some (((ks.zip js)[i]?).map fun p => .tup [.int p.1, .int p.2]) := by
  show (match (iD ks)[i]?, (iD js)[i]? with
    | some x, some y => some (some (D.tup [x, y]))
    | _, _ => some none) = _
  rw [iD_get, iD_get, List.zip, List.getElem?_zipWith]
  cases ks[i]? <;> cases js[i]? <;> rfl
theorem zip_tail_all : ∀ {ks : List Int}, ks.Pairwise (· < ·) → ((ks.zip ks.tail).all fun p => decide (p.1 < p.2)) = true
  | [], _ => rfl
  | [_], _ => rfl
  | a :: b :: r, h => by
    obtain ⟨h1, h2⟩ := List.pairwise_cons.mp h
    show (decide (a < b) && _) = true
    rw [decide_eq_true (h1 b List.mem_cons_self), Bool.true_and]
    exact zip_tail_all h2
theorem cut_tailI {ks : List Int} : cutD (iD ks) (some 1) none = iD ks.tail := by
  cases ks with
  | nil => rfl
  | cons k r => exact cut_tail
theorem e_asc {n : Nat} {ks : List Int} {S : Store} (h : ks.Pairwise (· < ·)) (hl : ks.length < 1000) : E (n + 1) 3 [.tup (iD ks)] S = .ok (.bl true) S := by
  refine callP (fd := d3.fd) rfl rfl rfl (by simp only [D.pures, D.pure, Bool.and_true]; exact iD_pures ks) (S1 := []) ?_ rfl
  show runB (C n) ⟨1, 3, true, b3⟩ _ _ = _
  simp only [b3, runB, ev_0A, ev_1A, ev_2A, ev_3A, ev_4A, ev_5A, ev_6A, ev_7A, ev_8A, ev_9A, ev_10A, ev_11A, ev_12A, ev_13A, ev_14A, ev_15A, ev_16A, ev_17A, ev_18A, ev_19A, ev_20A, ev_21A, evs_0A, evs_1A, evO_0A, evO_1A, evT_0A, evT_1A, evT_2A, evT_3A, evT_4A, evT_5A, evT_6A, evT_7A, evT_8A, evT_9A, evT_10A, evT_11A, evT_12A, evTs_0A, evTs_1A, evI_0A, evI_1A, evI_2A, evI_3A, evI_4A, evG_0A, evG_1A, evG_2A, evS_0A, evS_1A, evS_2A, evS_3A, evS_4A, evS_5A, evS_6A, evS_7A, evS_8A, evS_9A, evS_10A, bindO_ok, bindO_exn, bindO_bad, Res.bind_ok, Res.bind_exn, Res.bind_bad, Res.bindN_ok, optR_some, K0.d, EC, setN, setNs, wipeR, List.map_cons, List.map_nil, List.set_cons_zero, List.set_cons_succ, List.getElem?_cons_zero, List.getElem?_cons_succ, List.cons_append, List.nil_append, List.length_cons, List.length_nil, Option.map_some, Option.map_none, Nat.reduceAdd, Nat.reduceSub, Nat.reduceLeDiff, if_true, if_false, Bool.false_eq_true, List.replicate, evB_nil, evB_cons, seqO_nx, seqO_rt, seqO_exn, endD_exn, cmp_eq_int, cmp_ne_int, cmp_eq_bl, cmp_ne_bl, Bool.not_true, Bool.not_false, List.filterMap_cons, List.filterMap_nil, truth_bl, truth_int, truth_non, truth_tup, truth_lst, cmp_lt, cmp_le, cmp_gt, cmp_ge, cmp_in, cmp_inL, cmp_notin, ix_tup, ix_lst, ix_kl, add_int_true, sub_int_true, add_tup_true, pow_int_true, mul_tup_true, add_lst_true, sl_tup_true, sl_lst_true, sl_kl_true, len_tup_true, tuple_tup_true, list_tup_true, len_lst_true, tuple_lst_true, list_lst_true, len_kl_true, tuple_kl_true, list_kl_true, tuple_ref_true, int_int_true, int_bl_true, abs_int_true, all_lst_true, any_lst_true, sum_lst_true, max_lst_true, add_int_false, sub_int_false, add_tup_false, pow_int_false, mul_tup_false, add_lst_false, sl_tup_false, sl_lst_false, sl_kl_false, len_tup_false, tuple_tup_false, list_tup_false, len_lst_false, tuple_lst_false, list_lst_false, len_kl_false, tuple_kl_false, list_kl_false, tuple_ref_false, int_int_false, int_bl_false, abs_int_false, all_lst_false, any_lst_false, sum_lst_false, max_lst_false, newL_f, newL_t, sv_tup, sv_lst, sv_kl, se_tup, se_lst, se_kl, sz_tup, sz_lst, all_const, beq_self_eq_true, eq_self, decide_true, iD_len, in_iD, in_iDL, filter_tt, map_idd, atI_zero, blsOf_map, intsOf_map, all_map_id, cut_tail, is_int_n, isnot_int_n, is_bl_n, isnot_bl_n, is_str_n, isnot_str_n, is_tup_n, isnot_tup_n, is_lst_n, isnot_lst_n, is_kl_n, isnot_kl_n, is_non_n, isnot_non_n, is_bl_bl, seq_ref0, lst_ref0, own_ref0, truth_ref0, ix_ref0, app_ref0, tuple_ref0, len_ref0, set_ref0, isSome_some, atI_last, ix3_0, ix3_1, ix3_2, at3_1, at3_2, isi_non_int, isi_non_bl, isi_non_str, isi_non_tup, isi_non_lst, isi_non_lst_tup, isi_non_bl_str, isi_bl_int, isi_bl_bl, isi_bl_str, isi_bl_tup, isi_bl_lst, isi_bl_lst_tup, isi_bl_bl_str, isi_int_int, isi_int_bl, isi_int_str, isi_int_tup, isi_int_lst, isi_int_lst_tup, isi_int_bl_str, isi_str_int, isi_str_bl, isi_str_str, isi_str_tup, isi_str_lst, isi_str_lst_tup, isi_str_bl_str, isi_tup_int, isi_tup_bl, isi_tup_str, isi_tup_tup, isi_tup_lst, isi_tup_lst_tup, isi_tup_bl_str, isi_lst_int, isi_lst_bl, isi_lst_str, isi_lst_tup, isi_lst_lst, isi_lst_lst_tup, isi_lst_bl_str, isi_kl_int, isi_kl_bl, isi_kl_str, isi_kl_tup, isi_kl_lst, isi_kl_lst_tup, isi_kl_bl_str, endD_rt, endD_nx, seq_tupD, seq_lstD, mm_int, cut_tailI]
  rw [lc_pureA (ks.zip ks.tail) (fun p => .tup [.int p.1, .int p.2]) (fun _ => true) (fun p => .bl (decide (p.1 < p.2))) (fun p => [some (.tup (iD ks)), some (.int p.1), some (.int p.2)]) (fun i => at_zipI i) (fun p hp => ⟨rfl, rfl, fun _ => by simp only [runB, ev_0A, ev_1A, ev_2A, ev_3A, ev_4A, ev_5A, ev_6A, ev_7A, ev_8A, ev_9A, ev_10A, ev_11A, ev_12A, ev_13A, ev_14A, ev_15A, ev_16A, ev_17A, ev_18A, ev_19A, ev_20A, ev_21A, evs_0A, evs_1A, evO_0A, evO_1A, evT_0A, evT_1A, evT_2A, evT_3A, evT_4A, evT_5A, evT_6A, evT_7A, evT_8A, evT_9A, evT_10A, evT_11A, evT_12A, evTs_0A, evTs_1A, evI_0A, evI_1A, evI_2A, evI_3A, evI_4A, evG_0A, evG_1A, evG_2A, evS_0A, evS_1A, evS_2A, evS_3A, evS_4A, evS_5A, evS_6A, evS_7A, evS_8A, evS_9A, evS_10A, bindO_ok, bindO_exn, bindO_bad, Res.bind_ok, Res.bind_exn, Res.bind_bad, Res.bindN_ok, optR_some, K0.d, EC, setN, setNs, wipeR, List.map_cons, List.map_nil, List.set_cons_zero, List.set_cons_succ, List.getElem?_cons_zero, List.getElem?_cons_succ, List.cons_append, List.nil_append, List.length_cons, List.length_nil, Option.map_some, Option.map_none, Nat.reduceAdd, Nat.reduceSub, Nat.reduceLeDiff, if_true, if_false, Bool.false_eq_true, List.replicate, evB_nil, evB_cons, seqO_nx, seqO_rt, seqO_exn, endD_exn, cmp_eq_int, cmp_ne_int, cmp_eq_bl, cmp_ne_bl, Bool.not_true, Bool.not_false, List.filterMap_cons, List.filterMap_nil, truth_bl, truth_int, truth_non, truth_tup, truth_lst, cmp_lt, cmp_le, cmp_gt, cmp_ge, cmp_in, cmp_inL, cmp_notin, ix_tup, ix_lst, ix_kl, add_int_true, sub_int_true, add_tup_true, pow_int_true, mul_tup_true, add_lst_true, sl_tup_true, sl_lst_true, sl_kl_true, len_tup_true, tuple_tup_true, list_tup_true, len_lst_true, tuple_lst_true, list_lst_true, len_kl_true, tuple_kl_true, list_kl_true, tuple_ref_true, int_int_true, int_bl_true, abs_int_true, all_lst_true, any_lst_true, sum_lst_true, max_lst_true, add_int_false, sub_int_false, add_tup_false, pow_int_false, mul_tup_false, add_lst_false, sl_tup_false, sl_lst_false, sl_kl_false, len_tup_false, tuple_tup_false, list_tup_false, len_lst_false, tuple_lst_false, list_lst_false, len_kl_false, tuple_kl_false, list_kl_false, tuple_ref_false, int_int_false, int_bl_false, abs_int_false, all_lst_false, any_lst_false, sum_lst_false, max_lst_false, newL_f, newL_t, sv_tup, sv_lst, sv_kl, se_tup, se_lst, se_kl, sz_tup, sz_lst, all_const, beq_self_eq_true, eq_self, decide_true, iD_len, in_iD, in_iDL, filter_tt, map_idd, atI_zero, blsOf_map, intsOf_map, all_map_id, cut_tail, is_int_n, isnot_int_n, is_bl_n, isnot_bl_n, is_str_n, isnot_str_n, is_tup_n, isnot_tup_n, is_lst_n, isnot_lst_n, is_kl_n, isnot_kl_n, is_non_n, isnot_non_n, is_bl_bl, seq_ref0, lst_ref0, own_ref0, truth_ref0, ix_ref0, app_ref0, tuple_ref0, len_ref0, set_ref0, isSome_some, atI_last, ix3_0, ix3_1, ix3_2, at3_1, at3_2, isi_non_int, isi_non_bl, isi_non_str, isi_non_tup, isi_non_lst, isi_non_lst_tup, isi_non_bl_str, isi_bl_int, isi_bl_bl, isi_bl_str, isi_bl_tup, isi_bl_lst, isi_bl_lst_tup, isi_bl_bl_str, isi_int_int, isi_int_bl, isi_int_str, isi_int_tup, isi_int_lst, isi_int_lst_tup, isi_int_bl_str, isi_str_int, isi_str_bl, isi_str_str, isi_str_tup, isi_str_lst, isi_str_lst_tup, isi_str_bl_str, isi_tup_int, isi_tup_bl, isi_tup_str, isi_tup_tup, isi_tup_lst, isi_tup_lst_tup, isi_tup_bl_str, isi_lst_int, isi_lst_bl, isi_lst_str, isi_lst_tup, isi_lst_lst, isi_lst_lst_tup, isi_lst_bl_str, isi_kl_int, isi_kl_bl, isi_kl_str, isi_kl_tup, isi_kl_lst, isi_kl_lst_tup, isi_kl_bl_str, endD_rt, endD_nx, seq_tupD, seq_lstD, mm_int]⟩)
    (Nat.lt_of_le_of_lt (by rw [List.length_zip]; exact Nat.min_le_left _ _) hl)]
  simp only [runB, ev_0A, ev_1A, ev_2A, ev_3A, ev_4A, ev_5A, ev_6A, ev_7A, ev_8A, ev_9A, ev_10A, ev_11A, ev_12A, ev_13A, ev_14A, ev_15A, ev_16A, ev_17A, ev_18A, ev_19A, ev_20A, ev_21A, evs_0A, evs_1A, evO_0A, evO_1A, evT_0A, evT_1A, evT_2A, evT_3A, evT_4A, evT_5A, evT_6A, evT_7A, evT_8A, evT_9A, evT_10A, evT_11A, evT_12A, evTs_0A, evTs_1A, evI_0A, evI_1A, evI_2A, evI_3A, evI_4A, evG_0A, evG_1A, evG_2A, evS_0A, evS_1A, evS_2A, evS_3A, evS_4A, evS_5A, evS_6A, evS_7A, evS_8A, evS_9A, evS_10A, bindO_ok, bindO_exn, bindO_bad, Res.bind_ok, Res.bind_exn, Res.bind_bad, Res.bindN_ok, optR_some, K0.d, EC, setN, setNs, wipeR, List.map_cons, List.map_nil, List.set_cons_zero, List.set_cons_succ, List.getElem?_cons_zero, List.getElem?_cons_succ, List.cons_append, List.nil_append, List.length_cons, List.length_nil, Option.map_some, Option.map_none, Nat.reduceAdd, Nat.reduceSub, Nat.reduceLeDiff, if_true, if_false, Bool.false_eq_true, List.replicate, evB_nil, evB_cons, seqO_nx, seqO_rt, seqO_exn, endD_exn, cmp_eq_int, cmp_ne_int, cmp_eq_bl, cmp_ne_bl, Bool.not_true, Bool.not_false, List.filterMap_cons, List.filterMap_nil, truth_bl, truth_int, truth_non, truth_tup, truth_lst, cmp_lt, cmp_le, cmp_gt, cmp_ge, cmp_in, cmp_inL, cmp_notin, ix_tup, ix_lst, ix_kl, add_int_true, sub_int_true, add_tup_true, pow_int_true, mul_tup_true, add_lst_true, sl_tup_true, sl_lst_true, sl_kl_true, len_tup_true, tuple_tup_true, list_tup_true, len_lst_true, tuple_lst_true, list_lst_true, len_kl_true, tuple_kl_true, list_kl_true, tuple_ref_true, int_int_true, int_bl_true, abs_int_true, all_lst_true, any_lst_true, sum_lst_true, max_lst_true, add_int_false, sub_int_false, add_tup_false, pow_int_false, mul_tup_false, add_lst_false, sl_tup_false, sl_lst_false, sl_kl_false, len_tup_false, tuple_tup_false, list_tup_false, len_lst_false, tuple_lst_false, list_lst_false, len_kl_false, tuple_kl_false, list_kl_false, tuple_ref_false, int_int_false, int_bl_false, abs_int_false, all_lst_false, any_lst_false, sum_lst_false, max_lst_false, newL_f, newL_t, sv_tup, sv_lst, sv_kl, se_tup, se_lst, se_kl, sz_tup, sz_lst, all_const, beq_self_eq_true, eq_self, decide_true, iD_len, in_iD, in_iDL, filter_tt, map_idd, atI_zero, blsOf_map, intsOf_map, all_map_id, cut_tail, is_int_n, isnot_int_n, is_bl_n, isnot_bl_n, is_str_n, isnot_str_n, is_tup_n, isnot_tup_n, is_lst_n, isnot_lst_n, is_kl_n, isnot_kl_n, is_non_n, isnot_non_n, is_bl_bl, seq_ref0, lst_ref0, own_ref0, truth_ref0, ix_ref0, app_ref0, tuple_ref0, len_ref0, set_ref0, isSome_some, atI_last, ix3_0, ix3_1, ix3_2, at3_1, at3_2, isi_non_int, isi_non_bl, isi_non_str, isi_non_tup, isi_non_lst, isi_non_lst_tup, isi_non_bl_str, isi_bl_int, isi_bl_bl, isi_bl_str, isi_bl_tup, isi_bl_lst, isi_bl_lst_tup, isi_bl_bl_str, isi_int_int, isi_int_bl, isi_int_str, isi_int_tup, isi_int_lst, isi_int_lst_tup, isi_int_bl_str, isi_str_int, isi_str_bl, isi_str_str, isi_str_tup, isi_str_lst, isi_str_lst_tup, isi_str_bl_str, isi_tup_int, isi_tup_bl, isi_tup_str, isi_tup_tup, isi_tup_lst, isi_tup_lst_tup, isi_tup_bl_str, isi_lst_int, isi_lst_bl, isi_lst_str, isi_lst_tup, isi_lst_lst, isi_lst_lst_tup, isi_lst_bl_str, isi_kl_int, isi_kl_bl, isi_kl_str, isi_kl_tup, isi_kl_lst, isi_kl_lst_tup, isi_kl_bl_str, endD_rt, endD_nx, seq_tupD, seq_lstD, mm_int, zip_tail_all h]
/-- a set of kinds, as a row that ascends -/
def rowOk (ks row : List Int) : Prop := row.Pairwise (· < ·) ∧ ∀ x ∈ row, 0 ≤ x ∧ x < ks.length
theorem sorted_len : ∀ (row : List Int) (a b : Int), row.Pairwise (· < ·) → (∀ x ∈ row, a ≤ x ∧ x < b) → (row.length : Int) ≤ max 0 (b - a)
  | [], _, _, _, _ => by simp; omega
  | x :: r, a, b, h, hb => by
    obtain ⟨h1, h2⟩ := List.pairwise_cons.mp h
    have q := sorted_len r (x + 1) b h2 fun y hy => ⟨by have := h1 y hy; omega, (hb y (List.mem_cons_of_mem _ hy)).2⟩
    have := hb x List.mem_cons_self
    simp only [List.length_cons]
    omega
theorem row_len {ks row : List Int} (h : rowOk ks row) : row.length ≤ ks.length := by
  have := sorted_len row 0 ks.length h.1 h.2
  omega
theorem e_isSet {n : Nat} {ks row : List Int} {S : Store} (h : rowOk ks row) (hl : ks.length ≤ 100) : E (n + 3) 15 [.tup (iD ks), .tup (iD row)] S = .ok (.bl true) S := by
  have rl := row_len h
  refine callP (fd := d15.fd) rfl rfl rfl (by simp only [D.pures, D.pure, Bool.and_true, iD_pures]) (S1 := []) ?_ rfl
  show runB (C (n + 2)) ⟨2, 3, true, b15⟩ _ _ = _
  have q1 : callN (tblOf tbl) (cnOf cis) 1000 (n + 2) 2 [.tup (iD row)] [] = .ok (.bl true) [] := by
    have := e_numbers (n := n) (S := []) (iD_flat row) (by rw [iD_len]; omega)
    rw [iD_isI] at this
    exact this
  have q2 : callN (tblOf tbl) (cnOf cis) 1000 (n + 2) 3 [.tup (iD row)] [] = .ok (.bl true) [] := e_asc (n := n + 1) h.1 (by omega)
  simp only [b15, runB, ev_0A, ev_1A, ev_2A, ev_3A, ev_4A, ev_5A, ev_6A, ev_7A, ev_8A, ev_9A, ev_10A, ev_11A, ev_12A, ev_13A, ev_14A, ev_15A, ev_16A, ev_17A, ev_18A, ev_19A, ev_20A, ev_21A, evs_0A, evs_1A, evO_0A, evO_1A, evT_0A, evT_1A, evT_2A, evT_3A, evT_4A, evT_5A, evT_6A, evT_7A, evT_8A, evT_9A, evT_10A, evT_11A, evT_12A, evTs_0A, evTs_1A, evI_0A, evI_1A, evI_2A, evI_3A, evI_4A, evG_0A, evG_1A, evG_2A, evS_0A, evS_1A, evS_2A, evS_3A, evS_4A, evS_5A, evS_6A, evS_7A, evS_8A, evS_9A, evS_10A, bindO_ok, bindO_exn, bindO_bad, Res.bind_ok, Res.bind_exn, Res.bind_bad, Res.bindN_ok, optR_some, K0.d, EC, setN, setNs, wipeR, List.map_cons, List.map_nil, List.set_cons_zero, List.set_cons_succ, List.getElem?_cons_zero, List.getElem?_cons_succ, List.cons_append, List.nil_append, List.length_cons, List.length_nil, Option.map_some, Option.map_none, Nat.reduceAdd, Nat.reduceSub, Nat.reduceLeDiff, if_true, if_false, Bool.false_eq_true, List.replicate, evB_nil, evB_cons, seqO_nx, seqO_rt, seqO_exn, endD_exn, cmp_eq_int, cmp_ne_int, cmp_eq_bl, cmp_ne_bl, Bool.not_true, Bool.not_false, List.filterMap_cons, List.filterMap_nil, truth_bl, truth_int, truth_non, truth_tup, truth_lst, cmp_lt, cmp_le, cmp_gt, cmp_ge, cmp_in, cmp_inL, cmp_notin, ix_tup, ix_lst, ix_kl, add_int_true, sub_int_true, add_tup_true, pow_int_true, mul_tup_true, add_lst_true, sl_tup_true, sl_lst_true, sl_kl_true, len_tup_true, tuple_tup_true, list_tup_true, len_lst_true, tuple_lst_true, list_lst_true, len_kl_true, tuple_kl_true, list_kl_true, tuple_ref_true, int_int_true, int_bl_true, abs_int_true, all_lst_true, any_lst_true, sum_lst_true, max_lst_true, add_int_false, sub_int_false, add_tup_false, pow_int_false, mul_tup_false, add_lst_false, sl_tup_false, sl_lst_false, sl_kl_false, len_tup_false, tuple_tup_false, list_tup_false, len_lst_false, tuple_lst_false, list_lst_false, len_kl_false, tuple_kl_false, list_kl_false, tuple_ref_false, int_int_false, int_bl_false, abs_int_false, all_lst_false, any_lst_false, sum_lst_false, max_lst_false, newL_f, newL_t, sv_tup, sv_lst, sv_kl, se_tup, se_lst, se_kl, sz_tup, sz_lst, all_const, beq_self_eq_true, eq_self, decide_true, iD_len, in_iD, in_iDL, filter_tt, map_idd, atI_zero, blsOf_map, intsOf_map, all_map_id, cut_tail, is_int_n, isnot_int_n, is_bl_n, isnot_bl_n, is_str_n, isnot_str_n, is_tup_n, isnot_tup_n, is_lst_n, isnot_lst_n, is_kl_n, isnot_kl_n, is_non_n, isnot_non_n, is_bl_bl, seq_ref0, lst_ref0, own_ref0, truth_ref0, ix_ref0, app_ref0, tuple_ref0, len_ref0, set_ref0, isSome_some, atI_last, ix3_0, ix3_1, ix3_2, at3_1, at3_2, isi_non_int, isi_non_bl, isi_non_str, isi_non_tup, isi_non_lst, isi_non_lst_tup, isi_non_bl_str, isi_bl_int, isi_bl_bl, isi_bl_str, isi_bl_tup, isi_bl_lst, isi_bl_lst_tup, isi_bl_bl_str, isi_int_int, isi_int_bl, isi_int_str, isi_int_tup, isi_int_lst, isi_int_lst_tup, isi_int_bl_str, isi_str_int, isi_str_bl, isi_str_str, isi_str_tup, isi_str_lst, isi_str_lst_tup, isi_str_bl_str, isi_tup_int, isi_tup_bl, isi_tup_str, isi_tup_tup, isi_tup_lst, isi_tup_lst_tup, isi_tup_bl_str, isi_lst_int, isi_lst_bl, isi_lst_str, isi_lst_tup, isi_lst_lst, isi_lst_lst_tup, isi_lst_bl_str, isi_kl_int, isi_kl_bl, isi_kl_str, isi_kl_tup, isi_kl_lst, isi_kl_lst_tup, isi_kl_bl_str, endD_rt, endD_nx, seq_tupD, seq_lstD, mm_int, q1, q2]
  rw [lc_pureA row D.int (fun _ => true) (fun _ => .bl true) (fun x => [some (.tup (iD ks)), some (.tup (iD row)), some (.int x)]) (fun i => at_seq i) (fun x hx => ⟨rfl, rfl, fun _ => by
    have hx := h.2 x hx
    simp only [runB, ev_0A, ev_1A, ev_2A, ev_3A, ev_4A, ev_5A, ev_6A, ev_7A, ev_8A, ev_9A, ev_10A, ev_11A, ev_12A, ev_13A, ev_14A, ev_15A, ev_16A, ev_17A, ev_18A, ev_19A, ev_20A, ev_21A, evs_0A, evs_1A, evO_0A, evO_1A, evT_0A, evT_1A, evT_2A, evT_3A, evT_4A, evT_5A, evT_6A, evT_7A, evT_8A, evT_9A, evT_10A, evT_11A, evT_12A, evTs_0A, evTs_1A, evI_0A, evI_1A, evI_2A, evI_3A, evI_4A, evG_0A, evG_1A, evG_2A, evS_0A, evS_1A, evS_2A, evS_3A, evS_4A, evS_5A, evS_6A, evS_7A, evS_8A, evS_9A, evS_10A, bindO_ok, bindO_exn, bindO_bad, Res.bind_ok, Res.bind_exn, Res.bind_bad, Res.bindN_ok, optR_some, K0.d, EC, setN, setNs, wipeR, List.map_cons, List.map_nil, List.set_cons_zero, List.set_cons_succ, List.getElem?_cons_zero, List.getElem?_cons_succ, List.cons_append, List.nil_append, List.length_cons, List.length_nil, Option.map_some, Option.map_none, Nat.reduceAdd, Nat.reduceSub, Nat.reduceLeDiff, if_true, if_false, Bool.false_eq_true, List.replicate, evB_nil, evB_cons, seqO_nx, seqO_rt, seqO_exn, endD_exn, cmp_eq_int, cmp_ne_int, cmp_eq_bl, cmp_ne_bl, Bool.not_true, Bool.not_false, List.filterMap_cons, List.filterMap_nil, truth_bl, truth_int, truth_non, truth_tup, truth_lst, cmp_lt, cmp_le, cmp_gt, cmp_ge, cmp_in, cmp_inL, cmp_notin, ix_tup, ix_lst, ix_kl, add_int_true, sub_int_true, add_tup_true, pow_int_true, mul_tup_true, add_lst_true, sl_tup_true, sl_lst_true, sl_kl_true, len_tup_true, tuple_tup_true, list_tup_true, len_lst_true, tuple_lst_true, list_lst_true, len_kl_true, tuple_kl_true, list_kl_true, tuple_ref_true, int_int_true, int_bl_true, abs_int_true, all_lst_true, any_lst_true, sum_lst_true, max_lst_true, add_int_false, sub_int_false, add_tup_false, pow_int_false, mul_tup_false, add_lst_false, sl_tup_false, sl_lst_false, sl_kl_false, len_tup_false, tuple_tup_false, list_tup_false, len_lst_false, tuple_lst_false, list_lst_false, len_kl_false, tuple_kl_false, list_kl_false, tuple_ref_false, int_int_false, int_bl_false, abs_int_false, all_lst_false, any_lst_false, sum_lst_false, max_lst_false, newL_f, newL_t, sv_tup, sv_lst, sv_kl, se_tup, se_lst, se_kl, sz_tup, sz_lst, all_const, beq_self_eq_true, eq_self, decide_true, iD_len, in_iD, in_iDL, filter_tt, map_idd, atI_zero, blsOf_map, intsOf_map, all_map_id, cut_tail, is_int_n, isnot_int_n, is_bl_n, isnot_bl_n, is_str_n, isnot_str_n, is_tup_n, isnot_tup_n, is_lst_n, isnot_lst_n, is_kl_n, isnot_kl_n, is_non_n, isnot_non_n, is_bl_bl, seq_ref0, lst_ref0, own_ref0, truth_ref0, ix_ref0, app_ref0, tuple_ref0, len_ref0, set_ref0, isSome_some, atI_last, ix3_0, ix3_1, ix3_2, at3_1, at3_2, isi_non_int, isi_non_bl, isi_non_str, isi_non_tup, isi_non_lst, isi_non_lst_tup, isi_non_bl_str, isi_bl_int, isi_bl_bl, isi_bl_str, isi_bl_tup, isi_bl_lst, isi_bl_lst_tup, isi_bl_bl_str, isi_int_int, isi_int_bl, isi_int_str, isi_int_tup, isi_int_lst, isi_int_lst_tup, isi_int_bl_str, isi_str_int, isi_str_bl, isi_str_str, isi_str_tup, isi_str_lst, isi_str_lst_tup, isi_str_bl_str, isi_tup_int, isi_tup_bl, isi_tup_str, isi_tup_tup, isi_tup_lst, isi_tup_lst_tup, isi_tup_bl_str, isi_lst_int, isi_lst_bl, isi_lst_str, isi_lst_tup, isi_lst_lst, isi_lst_lst_tup, isi_lst_bl_str, isi_kl_int, isi_kl_bl, isi_kl_str, isi_kl_tup, isi_kl_lst, isi_kl_lst_tup, isi_kl_bl_str, endD_rt, endD_nx, seq_tupD, seq_lstD, mm_int, decide_eq_true hx.1, decide_eq_true hx.2]⟩) (by omega)]
  simp only [runB, ev_0A, ev_1A, ev_2A, ev_3A, ev_4A, ev_5A, ev_6A, ev_7A, ev_8A, ev_9A, ev_10A, ev_11A, ev_12A, ev_13A, ev_14A, ev_15A, ev_16A, ev_17A, ev_18A, ev_19A, ev_20A, ev_21A, evs_0A, evs_1A, evO_0A, evO_1A, evT_0A, evT_1A, evT_2A, evT_3A, evT_4A, evT_5A, evT_6A, evT_7A, evT_8A, evT_9A, evT_10A, evT_11A, evT_12A, evTs_0A, evTs_1A, evI_0A, evI_1A, evI_2A, evI_3A, evI_4A, evG_0A, evG_1A, evG_2A, evS_0A, evS_1A, evS_2A, evS_3A, evS_4A, evS_5A, evS_6A, evS_7A, evS_8A, evS_9A, evS_10A, bindO_ok, bindO_exn, bindO_bad, Res.bind_ok, Res.bind_exn, Res.bind_bad, Res.bindN_ok, optR_some, K0.d, EC, setN, setNs, wipeR, List.map_cons, List.map_nil, List.set_cons_zero, List.set_cons_succ, List.getElem?_cons_zero, List.getElem?_cons_succ, List.cons_append, List.nil_append, List.length_cons, List.length_nil, Option.map_some, Option.map_none, Nat.reduceAdd, Nat.reduceSub, Nat.reduceLeDiff, if_true, if_false, Bool.false_eq_true, List.replicate, evB_nil, evB_cons, seqO_nx, seqO_rt, seqO_exn, endD_exn, cmp_eq_int, cmp_ne_int, cmp_eq_bl, cmp_ne_bl, Bool.not_true, Bool.not_false, List.filterMap_cons, List.filterMap_nil, truth_bl, truth_int, truth_non, truth_tup, truth_lst, cmp_lt, cmp_le, cmp_gt, cmp_ge, cmp_in, cmp_inL, cmp_notin, ix_tup, ix_lst, ix_kl, add_int_true, sub_int_true, add_tup_true, pow_int_true, mul_tup_true, add_lst_true, sl_tup_true, sl_lst_true, sl_kl_true, len_tup_true, tuple_tup_true, list_tup_true, len_lst_true, tuple_lst_true, list_lst_true, len_kl_true, tuple_kl_true, list_kl_true, tuple_ref_true, int_int_true, int_bl_true, abs_int_true, all_lst_true, any_lst_true, sum_lst_true, max_lst_true, add_int_false, sub_int_false, add_tup_false, pow_int_false, mul_tup_false, add_lst_false, sl_tup_false, sl_lst_false, sl_kl_false, len_tup_false, tuple_tup_false, list_tup_false, len_lst_false, tuple_lst_false, list_lst_false, len_kl_false, tuple_kl_false, list_kl_false, tuple_ref_false, int_int_false, int_bl_false, abs_int_false, all_lst_false, any_lst_false, sum_lst_false, max_lst_false, newL_f, newL_t, sv_tup, sv_lst, sv_kl, se_tup, se_lst, se_kl, sz_tup, sz_lst, all_const, beq_self_eq_true, eq_self, decide_true, iD_len, in_iD, in_iDL, filter_tt, map_idd, atI_zero, blsOf_map, intsOf_map, all_map_id, cut_tail, is_int_n, isnot_int_n, is_bl_n, isnot_bl_n, is_str_n, isnot_str_n, is_tup_n, isnot_tup_n, is_lst_n, isnot_lst_n, is_kl_n, isnot_kl_n, is_non_n, isnot_non_n, is_bl_bl, seq_ref0, lst_ref0, own_ref0, truth_ref0, ix_ref0, app_ref0, tuple_ref0, len_ref0, set_ref0, isSome_some, atI_last, ix3_0, ix3_1, ix3_2, at3_1, at3_2, isi_non_int, isi_non_bl, isi_non_str, isi_non_tup, isi_non_lst, isi_non_lst_tup, isi_non_bl_str, isi_bl_int, isi_bl_bl, isi_bl_str, isi_bl_tup, isi_bl_lst, isi_bl_lst_tup, isi_bl_bl_str, isi_int_int, isi_int_bl, isi_int_str, isi_int_tup, isi_int_lst, isi_int_lst_tup, isi_int_bl_str, isi_str_int, isi_str_bl, isi_str_str, isi_str_tup, isi_str_lst, isi_str_lst_tup, isi_str_bl_str, isi_tup_int, isi_tup_bl, isi_tup_str, isi_tup_tup, isi_tup_lst, isi_tup_lst_tup, isi_tup_bl_str, isi_lst_int, isi_lst_bl, isi_lst_str, isi_lst_tup, isi_lst_lst, isi_lst_lst_tup, isi_lst_bl_str, isi_kl_int, isi_kl_bl, isi_kl_str, isi_kl_tup, isi_kl_lst, isi_kl_lst_tup, isi_kl_bl_str, endD_rt, endD_nx, seq_tupD, seq_lstD, mm_int, blsOf_map (fun _ : Int => true) row]
/-- a row as it is given -/
theorem e_sureSet {n : Nat} {ks row : List Int} {x : D} {S : Store} (hx : ksD row x) (h : rowOk ks row) (hl : ks.length ≤ 100) : E (n + 4) 16 [.tup (iD ks), x] S = .ok (.tup (iD row)) S := by
  have rl := row_len h
  have hp : x.pure = true := by rcases hx with e | e <;> subst e <;> (simp only [D.pure]; exact iD_pures row)
  refine callP (fd := d16.fd) rfl rfl rfl (by simp only [D.pures, D.pure, iD_pures, hp, Bool.and_true]) (S1 := []) ?_ (by simp only [D.pure]; exact iD_pures row)
  show runB (C (n + 3)) ⟨2, 3, true, b16⟩ _ _ = _
  have q1 : callN (tblOf tbl) (cnOf cis) 1000 (n + 3) 4 [x] [] = .ok (.tup (iD row)) [] := by
    rcases hx with e | e <;> subst e
    · exact e_tupledT (n := n + 1) (iD_flat row) (by rw [iD_len]; omega)
    · exact e_tupledL (n := n + 1) (iD_flat row) (by rw [iD_len]; omega)
  have q2 : callN (tblOf tbl) (cnOf cis) 1000 (n + 3) 15 [.tup (iD ks), .tup (iD row)] [] = .ok (.bl true) [] := e_isSet h hl
  simp only [b16, runB, ev_0A, ev_1A, ev_2A, ev_3A, ev_4A, ev_5A, ev_6A, ev_7A, ev_8A, ev_9A, ev_10A, ev_11A, ev_12A, ev_13A, ev_14A, ev_15A, ev_16A, ev_17A, ev_18A, ev_19A, ev_20A, ev_21A, evs_0A, evs_1A, evO_0A, evO_1A, evT_0A, evT_1A, evT_2A, evT_3A, evT_4A, evT_5A, evT_6A, evT_7A, evT_8A, evT_9A, evT_10A, evT_11A, evT_12A, evTs_0A, evTs_1A, evI_0A, evI_1A, evI_2A, evI_3A, evI_4A, evG_0A, evG_1A, evG_2A, evS_0A, evS_1A, evS_2A, evS_3A, evS_4A, evS_5A, evS_6A, evS_7A, evS_8A, evS_9A, evS_10A, bindO_ok, bindO_exn, bindO_bad, Res.bind_ok, Res.bind_exn, Res.bind_bad, Res.bindN_ok, optR_some, K0.d, EC, setN, setNs, wipeR, List.map_cons, List.map_nil, List.set_cons_zero, List.set_cons_succ, List.getElem?_cons_zero, List.getElem?_cons_succ, List.cons_append, List.nil_append, List.length_cons, List.length_nil, Option.map_some, Option.map_none, Nat.reduceAdd, Nat.reduceSub, Nat.reduceLeDiff, if_true, if_false, Bool.false_eq_true, List.replicate, evB_nil, evB_cons, seqO_nx, seqO_rt, seqO_exn, endD_exn, cmp_eq_int, cmp_ne_int, cmp_eq_bl, cmp_ne_bl, Bool.not_true, Bool.not_false, List.filterMap_cons, List.filterMap_nil, truth_bl, truth_int, truth_non, truth_tup, truth_lst, cmp_lt, cmp_le, cmp_gt, cmp_ge, cmp_in, cmp_inL, cmp_notin, ix_tup, ix_lst, ix_kl, add_int_true, sub_int_true, add_tup_true, pow_int_true, mul_tup_true, add_lst_true, sl_tup_true, sl_lst_true, sl_kl_true, len_tup_true, tuple_tup_true, list_tup_true, len_lst_true, tuple_lst_true, list_lst_true, len_kl_true, tuple_kl_true, list_kl_true, tuple_ref_true, int_int_true, int_bl_true, abs_int_true, all_lst_true, any_lst_true, sum_lst_true, max_lst_true, add_int_false, sub_int_false, add_tup_false, pow_int_false, mul_tup_false, add_lst_false, sl_tup_false, sl_lst_false, sl_kl_false, len_tup_false, tuple_tup_false, list_tup_false, len_lst_false, tuple_lst_false, list_lst_false, len_kl_false, tuple_kl_false, list_kl_false, tuple_ref_false, int_int_false, int_bl_false, abs_int_false, all_lst_false, any_lst_false, sum_lst_false, max_lst_false, newL_f, newL_t, sv_tup, sv_lst, sv_kl, se_tup, se_lst, se_kl, sz_tup, sz_lst, all_const, beq_self_eq_true, eq_self, decide_true, iD_len, in_iD, in_iDL, filter_tt, map_idd, atI_zero, blsOf_map, intsOf_map, all_map_id, cut_tail, is_int_n, isnot_int_n, is_bl_n, isnot_bl_n, is_str_n, isnot_str_n, is_tup_n, isnot_tup_n, is_lst_n, isnot_lst_n, is_kl_n, isnot_kl_n, is_non_n, isnot_non_n, is_bl_bl, seq_ref0, lst_ref0, own_ref0, truth_ref0, ix_ref0, app_ref0, tuple_ref0, len_ref0, set_ref0, isSome_some, atI_last, ix3_0, ix3_1, ix3_2, at3_1, at3_2, isi_non_int, isi_non_bl, isi_non_str, isi_non_tup, isi_non_lst, isi_non_lst_tup, isi_non_bl_str, isi_bl_int, isi_bl_bl, isi_bl_str, isi_bl_tup, isi_bl_lst, isi_bl_lst_tup, isi_bl_bl_str, isi_int_int, isi_int_bl, isi_int_str, isi_int_tup, isi_int_lst, isi_int_lst_tup, isi_int_bl_str, isi_str_int, isi_str_bl, isi_str_str, isi_str_tup, isi_str_lst, isi_str_lst_tup, isi_str_bl_str, isi_tup_int, isi_tup_bl, isi_tup_str, isi_tup_tup, isi_tup_lst, isi_tup_lst_tup, isi_tup_bl_str, isi_lst_int, isi_lst_bl, isi_lst_str, isi_lst_tup, isi_lst_lst, isi_lst_lst_tup, isi_lst_bl_str, isi_kl_int, isi_kl_bl, isi_kl_str, isi_kl_tup, isi_kl_lst, isi_kl_lst_tup, isi_kl_bl_str, endD_rt, endD_nx, seq_tupD, seq_lstD, mm_int, q1, q2]
/-! ### joined, set_of -/
theorem ext_ref0 {xs ys : List D} {R : Store} : methD true (.ref 0) .extend [.tup ys] (SO.lst xs :: R) = if xs.length + ys.length ≤ 16777216 then .ok .non (SO.lst (xs ++ ys) :: R) else .bad := rfl
theorem flat_take : ∀ (L : List (List Int)) (i : Nat) (r : List Int), L[i]? = some r → (L.take (i + 1)).flatten = (L.take i).flatten ++ r
  | [], _, _, h => by simp at h
  | x :: L, 0, r, h => by simp at h; subst h; simp
  | x :: L, i + 1, r, h => by
    simp only [List.getElem?_cons_succ] at h
    simp only [List.take_succ_cons, List.flatten_cons, flat_take L i r h, List.append_assoc]
theorem flat_le : ∀ (L : List (List Int)) (i : Nat), (L.take i).flatten.length ≤ L.flatten.length
  | [], _ => by simp
  | x :: L, 0 => by simp
  | x :: L, i + 1 => by
    have := flat_le L i
    simp only [List.take_succ_cons, List.flatten_cons, List.length_append]
    omega
theorem e_joined {n : Nat} {L : List (List Int)} {S : Store} (h1 : L.length < 900) (h2 : L.flatten.length ≤ 1000) : E (n + 1) 5 [.lst (L.map fun r => .tup (iD r))] S = .ok (.lst (iD L.flatten)) S := by
  have hp : D.pures (L.map fun r => D.tup (iD r)) = true := pures_iff.mpr fun x hx => by
    obtain ⟨r, _, rfl⟩ := List.mem_map.mp hx
    simp only [D.pure]
    exact iD_pures r
  refine callPf (fd := d5.fd) (r := .ref 0) rfl rfl rfl (by simp only [D.pures, D.pure, Bool.and_true]; exact hp) (S1 := [.lst (iD L.flatten)]) ?_ (by
    show (frzRs (fun m => frz 59 [SO.lst (iD L.flatten)] (.ref m)) (iD L.flatten)).map D.lst = _
    rw [frzRs_pure _ (iD_pures _)]
    rfl)
  show runB (C n) ⟨1, 3, true, b5⟩ _ _ = _
  have loop := for_inv (src := .seq (L.map fun r => D.tup (iD r))) (tg := evG (C n) (.name 2)) (N := L.length) (tb := evB (C n) (.cons (.expr (.meth (.var 1) .extend (.cons (.var 2) .nil))) .nil))
    (fun i ρ St => ∃ x : Option D, ρ = [some (.lst (L.map fun r => .tup (iD r))), some (.ref 0), x] ∧ St = [.lst (iD (L.take i).flatten)])
    (fun o => ∃ x : Option D, o = .nx [some (.lst (L.map fun r => .tup (iD r))), some (.ref 0), x] [.lst (iD L.flatten)])
    (by
      rintro i ρ St hi ⟨x, rfl, rfl⟩
      have z : L[i]? = some L[i] := List.getElem?_eq_getElem hi
      refine ⟨.tup (iD L[i]), [some (.lst (L.map fun r => .tup (iD r))), some (.ref 0), some (.tup (iD L[i]))], [.lst (iD (L.take i).flatten)], ?_, rfl, ?_⟩
      · show some ((L.map fun r => D.tup (iD r))[i]?) = _
        rw [List.getElem?_map, z]
        rfl
      · have hle := flat_le L (i + 1)
        rw [flat_take L i _ z, List.length_append] at hle
        have hc : (L.take i).flatten.length + L[i].length ≤ 16777216 := by omega
        simp only [runB, ev_0A, ev_1A, ev_2A, ev_3A, ev_4A, ev_5A, ev_6A, ev_7A, ev_8A, ev_9A, ev_10A, ev_11A, ev_12A, ev_13A, ev_14A, ev_15A, ev_16A, ev_17A, ev_18A, ev_19A, ev_20A, ev_21A, evs_0A, evs_1A, evO_0A, evO_1A, evT_0A, evT_1A, evT_2A, evT_3A, evT_4A, evT_5A, evT_6A, evT_7A, evT_8A, evT_9A, evT_10A, evT_11A, evT_12A, evTs_0A, evTs_1A, evI_0A, evI_1A, evI_2A, evI_3A, evI_4A, evG_0A, evG_1A, evG_2A, evS_0A, evS_1A, evS_2A, evS_3A, evS_4A, evS_5A, evS_6A, evS_7A, evS_8A, evS_9A, evS_10A, bindO_ok, bindO_exn, bindO_bad, Res.bind_ok, Res.bind_exn, Res.bind_bad, Res.bindN_ok, optR_some, K0.d, EC, setN, setNs, wipeR, List.map_cons, List.map_nil, List.set_cons_zero, List.set_cons_succ, List.getElem?_cons_zero, List.getElem?_cons_succ, List.cons_append, List.nil_append, List.length_cons, List.length_nil, Option.map_some, Option.map_none, Nat.reduceAdd, Nat.reduceSub, Nat.reduceLeDiff, if_true, if_false, Bool.false_eq_true, List.replicate, evB_nil, evB_cons, seqO_nx, seqO_rt, seqO_exn, endD_exn, cmp_eq_int, cmp_ne_int, cmp_eq_bl, cmp_ne_bl, Bool.not_true, Bool.not_false, List.filterMap_cons, List.filterMap_nil, truth_bl, truth_int, truth_non, truth_tup, truth_lst, cmp_lt, cmp_le, cmp_gt, cmp_ge, cmp_in, cmp_inL, cmp_notin, ix_tup, ix_lst, ix_kl, add_int_true, sub_int_true, add_tup_true, pow_int_true, mul_tup_true, add_lst_true, sl_tup_true, sl_lst_true, sl_kl_true, len_tup_true, tuple_tup_true, list_tup_true, len_lst_true, tuple_lst_true, list_lst_true, len_kl_true, tuple_kl_true, list_kl_true, tuple_ref_true, int_int_true, int_bl_true, abs_int_true, all_lst_true, any_lst_true, sum_lst_true, max_lst_true, add_int_false, sub_int_false, add_tup_false, pow_int_false, mul_tup_false, add_lst_false, sl_tup_false, sl_lst_false, sl_kl_false, len_tup_false, tuple_tup_false, list_tup_false, len_lst_false, tuple_lst_false, list_lst_false, len_kl_false, tuple_kl_false, list_kl_false, tuple_ref_false, int_int_false, int_bl_false, abs_int_false, all_lst_false, any_lst_false, sum_lst_false, max_lst_false, newL_f, newL_t, sv_tup, sv_lst, sv_kl, se_tup, se_lst, se_kl, sz_tup, sz_lst, all_const, beq_self_eq_true, eq_self, decide_true, iD_len, in_iD, in_iDL, filter_tt, map_idd, atI_zero, blsOf_map, intsOf_map, all_map_id, cut_tail, is_int_n, isnot_int_n, is_bl_n, isnot_bl_n, is_str_n, isnot_str_n, is_tup_n, isnot_tup_n, is_lst_n, isnot_lst_n, is_kl_n, isnot_kl_n, is_non_n, isnot_non_n, is_bl_bl, seq_ref0, lst_ref0, own_ref0, truth_ref0, ix_ref0, app_ref0, tuple_ref0, len_ref0, set_ref0, isSome_some, atI_last, ix3_0, ix3_1, ix3_2, at3_1, at3_2, isi_non_int, isi_non_bl, isi_non_str, isi_non_tup, isi_non_lst, isi_non_lst_tup, isi_non_bl_str, isi_bl_int, isi_bl_bl, isi_bl_str, isi_bl_tup, isi_bl_lst, isi_bl_lst_tup, isi_bl_bl_str, isi_int_int, isi_int_bl, isi_int_str, isi_int_tup, isi_int_lst, isi_int_lst_tup, isi_int_bl_str, isi_str_int, isi_str_bl, isi_str_str, isi_str_tup, isi_str_lst, isi_str_lst_tup, isi_str_bl_str, isi_tup_int, isi_tup_bl, isi_tup_str, isi_tup_tup, isi_tup_lst, isi_tup_lst_tup, isi_tup_bl_str, isi_lst_int, isi_lst_bl, isi_lst_str, isi_lst_tup, isi_lst_lst, isi_lst_lst_tup, isi_lst_bl_str, isi_kl_int, isi_kl_bl, isi_kl_str, isi_kl_tup, isi_kl_lst, isi_kl_lst_tup, isi_kl_bl_str, endD_rt, endD_nx, seq_tupD, seq_lstD, mm_int, ext_ref0, if_pos hc]
        refine ⟨_, rfl, ?_⟩
        rw [flat_take L i _ z, iD_app])
    (by
      rintro ρ St ⟨x, rfl, rfl⟩
      refine ⟨?_, x, ?_⟩
      · show some ((L.map fun r => D.tup (iD r))[L.length]?) = _
        rw [List.getElem?_eq_none (by rw [List.length_map]; exact Nat.le_refl _)]
      · rw [List.take_length])
    1000 0 [some (.lst (L.map fun r => .tup (iD r))), some (.ref 0), none] [.lst []] (by omega) (by omega) ⟨none, rfl, rfl⟩
  obtain ⟨x, e⟩ := loop
  simp only [b5, runB, ev_0A, ev_1A, ev_2A, ev_3A, ev_4A, ev_5A, ev_6A, ev_7A, ev_8A, ev_9A, ev_10A, ev_11A, ev_12A, ev_13A, ev_14A, ev_15A, ev_16A, ev_17A, ev_18A, ev_19A, ev_20A, ev_21A, evs_0A, evs_1A, evO_0A, evO_1A, evT_0A, evT_1A, evT_2A, evT_3A, evT_4A, evT_5A, evT_6A, evT_7A, evT_8A, evT_9A, evT_10A, evT_11A, evT_12A, evTs_0A, evTs_1A, evI_0A, evI_1A, evI_2A, evI_3A, evI_4A, evG_0A, evG_1A, evG_2A, evS_0A, evS_1A, evS_2A, evS_3A, evS_4A, evS_5A, evS_6A, evS_7A, evS_8A, evS_9A, evS_10A, bindO_ok, bindO_exn, bindO_bad, Res.bind_ok, Res.bind_exn, Res.bind_bad, Res.bindN_ok, optR_some, K0.d, EC, setN, setNs, wipeR, List.map_cons, List.map_nil, List.set_cons_zero, List.set_cons_succ, List.getElem?_cons_zero, List.getElem?_cons_succ, List.cons_append, List.nil_append, List.length_cons, List.length_nil, Option.map_some, Option.map_none, Nat.reduceAdd, Nat.reduceSub, Nat.reduceLeDiff, if_true, if_false, Bool.false_eq_true, List.replicate, evB_nil, evB_cons, seqO_nx, seqO_rt, seqO_exn, endD_exn, cmp_eq_int, cmp_ne_int, cmp_eq_bl, cmp_ne_bl, Bool.not_true, Bool.not_false, List.filterMap_cons, List.filterMap_nil, truth_bl, truth_int, truth_non, truth_tup, truth_lst, cmp_lt, cmp_le, cmp_gt, cmp_ge, cmp_in, cmp_inL, cmp_notin, ix_tup, ix_lst, ix_kl, add_int_true, sub_int_true, add_tup_true, pow_int_true, mul_tup_true, add_lst_true, sl_tup_true, sl_lst_true, sl_kl_true, len_tup_true, tuple_tup_true, list_tup_true, len_lst_true, tuple_lst_true, list_lst_true, len_kl_true, tuple_kl_true, list_kl_true, tuple_ref_true, int_int_true, int_bl_true, abs_int_true, all_lst_true, any_lst_true, sum_lst_true, max_lst_true, add_int_false, sub_int_false, add_tup_false, pow_int_false, mul_tup_false, add_lst_false, sl_tup_false, sl_lst_false, sl_kl_false, len_tup_false, tuple_tup_false, list_tup_false, len_lst_false, tuple_lst_false, list_lst_false, len_kl_false, tuple_kl_false, list_kl_false, tuple_ref_false, int_int_false, int_bl_false, abs_int_false, all_lst_false, any_lst_false, sum_lst_false, max_lst_false, newL_f, newL_t, sv_tup, sv_lst, sv_kl, se_tup, se_lst, se_kl, sz_tup, sz_lst, all_const, beq_self_eq_true, eq_self, decide_true, iD_len, in_iD, in_iDL, filter_tt, map_idd, atI_zero, blsOf_map, intsOf_map, all_map_id, cut_tail, is_int_n, isnot_int_n, is_bl_n, isnot_bl_n, is_str_n, isnot_str_n, is_tup_n, isnot_tup_n, is_lst_n, isnot_lst_n, is_kl_n, isnot_kl_n, is_non_n, isnot_non_n, is_bl_bl, seq_ref0, lst_ref0, own_ref0, truth_ref0, ix_ref0, app_ref0, tuple_ref0, len_ref0, set_ref0, isSome_some, atI_last, ix3_0, ix3_1, ix3_2, at3_1, at3_2, isi_non_int, isi_non_bl, isi_non_str, isi_non_tup, isi_non_lst, isi_non_lst_tup, isi_non_bl_str, isi_bl_int, isi_bl_bl, isi_bl_str, isi_bl_tup, isi_bl_lst, isi_bl_lst_tup, isi_bl_bl_str, isi_int_int, isi_int_bl, isi_int_str, isi_int_tup, isi_int_lst, isi_int_lst_tup, isi_int_bl_str, isi_str_int, isi_str_bl, isi_str_str, isi_str_tup, isi_str_lst, isi_str_lst_tup, isi_str_bl_str, isi_tup_int, isi_tup_bl, isi_tup_str, isi_tup_tup, isi_tup_lst, isi_tup_lst_tup, isi_tup_bl_str, isi_lst_int, isi_lst_bl, isi_lst_str, isi_lst_tup, isi_lst_lst, isi_lst_lst_tup, isi_lst_bl_str, isi_kl_int, isi_kl_bl, isi_kl_str, isi_kl_tup, isi_kl_lst, isi_kl_lst_tup, isi_kl_bl_str, endD_rt, endD_nx, seq_tupD, seq_lstD, mm_int, e]
theorem e_setOf {n : Nat} {row : List Int} {x : D} {S : Store} (hx : seqOf S x = some (iD row)) (hl : row.length < 60) : E (n + 1) 6 [x] S = .ok (.tup (iD (sset row))) S := by
  have hE : E (n + 1) 6 [x] S = runB (C n) d6.fd [x] S := callI rfl rfl rfl
  rw [hE]
  show runB (C n) ⟨1, 1, false, b6⟩ _ _ = _
  have q : biD false .sset x S = .ok (.lst (iD (sset row))) S := by
    show (match (seqOf S x).bind intsOf with
      | some ns => if ns.length < 60 then newL false ((sset ns).map D.int) S else .bad
      | none => .bad) = _
    rw [hx]
    simp only [Option.bind_some, intsOf_iD, if_pos hl]
    rfl
  simp only [b6, runB, ev_0A, ev_1A, ev_2A, ev_3A, ev_4A, ev_5A, ev_6A, ev_7A, ev_8A, ev_9A, ev_10A, ev_11A, ev_12A, ev_13A, ev_14A, ev_15A, ev_16A, ev_17A, ev_18A, ev_19A, ev_20A, ev_21A, evs_0A, evs_1A, evO_0A, evO_1A, evT_0A, evT_1A, evT_2A, evT_3A, evT_4A, evT_5A, evT_6A, evT_7A, evT_8A, evT_9A, evT_10A, evT_11A, evT_12A, evTs_0A, evTs_1A, evI_0A, evI_1A, evI_2A, evI_3A, evI_4A, evG_0A, evG_1A, evG_2A, evS_0A, evS_1A, evS_2A, evS_3A, evS_4A, evS_5A, evS_6A, evS_7A, evS_8A, evS_9A, evS_10A, bindO_ok, bindO_exn, bindO_bad, Res.bind_ok, Res.bind_exn, Res.bind_bad, Res.bindN_ok, optR_some, K0.d, EC, setN, setNs, wipeR, List.map_cons, List.map_nil, List.set_cons_zero, List.set_cons_succ, List.getElem?_cons_zero, List.getElem?_cons_succ, List.cons_append, List.nil_append, List.length_cons, List.length_nil, Option.map_some, Option.map_none, Nat.reduceAdd, Nat.reduceSub, Nat.reduceLeDiff, if_true, if_false, Bool.false_eq_true, List.replicate, evB_nil, evB_cons, seqO_nx, seqO_rt, seqO_exn, endD_exn, cmp_eq_int, cmp_ne_int, cmp_eq_bl, cmp_ne_bl, Bool.not_true, Bool.not_false, List.filterMap_cons, List.filterMap_nil, truth_bl, truth_int, truth_non, truth_tup, truth_lst, cmp_lt, cmp_le, cmp_gt, cmp_ge, cmp_in, cmp_inL, cmp_notin, ix_tup, ix_lst, ix_kl, add_int_true, sub_int_true, add_tup_true, pow_int_true, mul_tup_true, add_lst_true, sl_tup_true, sl_lst_true, sl_kl_true, len_tup_true, tuple_tup_true, list_tup_true, len_lst_true, tuple_lst_true, list_lst_true, len_kl_true, tuple_kl_true, list_kl_true, tuple_ref_true, int_int_true, int_bl_true, abs_int_true, all_lst_true, any_lst_true, sum_lst_true, max_lst_true, add_int_false, sub_int_false, add_tup_false, pow_int_false, mul_tup_false, add_lst_false, sl_tup_false, sl_lst_false, sl_kl_false, len_tup_false, tuple_tup_false, list_tup_false, len_lst_false, tuple_lst_false, list_lst_false, len_kl_false, tuple_kl_false, list_kl_false, tuple_ref_false, int_int_false, int_bl_false, abs_int_false, all_lst_false, any_lst_false, sum_lst_false, max_lst_false, newL_f, newL_t, sv_tup, sv_lst, sv_kl, se_tup, se_lst, se_kl, sz_tup, sz_lst, all_const, beq_self_eq_true, eq_self, decide_true, iD_len, in_iD, in_iDL, filter_tt, map_idd, atI_zero, blsOf_map, intsOf_map, all_map_id, cut_tail, is_int_n, isnot_int_n, is_bl_n, isnot_bl_n, is_str_n, isnot_str_n, is_tup_n, isnot_tup_n, is_lst_n, isnot_lst_n, is_kl_n, isnot_kl_n, is_non_n, isnot_non_n, is_bl_bl, seq_ref0, lst_ref0, own_ref0, truth_ref0, ix_ref0, app_ref0, tuple_ref0, len_ref0, set_ref0, isSome_some, atI_last, ix3_0, ix3_1, ix3_2, at3_1, at3_2, isi_non_int, isi_non_bl, isi_non_str, isi_non_tup, isi_non_lst, isi_non_lst_tup, isi_non_bl_str, isi_bl_int, isi_bl_bl, isi_bl_str, isi_bl_tup, isi_bl_lst, isi_bl_lst_tup, isi_bl_bl_str, isi_int_int, isi_int_bl, isi_int_str, isi_int_tup, isi_int_lst, isi_int_lst_tup, isi_int_bl_str, isi_str_int, isi_str_bl, isi_str_str, isi_str_tup, isi_str_lst, isi_str_lst_tup, isi_str_bl_str, isi_tup_int, isi_tup_bl, isi_tup_str, isi_tup_tup, isi_tup_lst, isi_tup_lst_tup, isi_tup_bl_str, isi_lst_int, isi_lst_bl, isi_lst_str, isi_lst_tup, isi_lst_lst, isi_lst_lst_tup, isi_lst_bl_str, isi_kl_int, isi_kl_bl, isi_kl_str, isi_kl_tup, isi_kl_lst, isi_kl_lst_tup, isi_kl_bl_str, endD_rt, endD_nx, seq_tupD, seq_lstD, mm_int, q]
theorem e_lset {n : Nat} {row : List Int} {x : D} {S : Store} (hx : seqOf S x = some (iD row)) (hl : row.length < 60) : E (n + 1) 29 [x] S = .ok (.tup (iD (sset row))) S := by
  have hE : E (n + 1) 29 [x] S = runB (C n) d29.fd [x] S := callI rfl rfl rfl
  rw [hE]
  show runB (C n) ⟨1, 1, false, b29⟩ _ _ = _
  have q : biD false .sset x S = .ok (.lst (iD (sset row))) S := by
    show (match (seqOf S x).bind intsOf with
      | some ns => if ns.length < 60 then newL false ((sset ns).map D.int) S else .bad
      | none => .bad) = _
    rw [hx]
    simp only [Option.bind_some, intsOf_iD, if_pos hl]
    rfl
  simp only [b29, runB, ev_0A, ev_1A, ev_2A, ev_3A, ev_4A, ev_5A, ev_6A, ev_7A, ev_8A, ev_9A, ev_10A, ev_11A, ev_12A, ev_13A, ev_14A, ev_15A, ev_16A, ev_17A, ev_18A, ev_19A, ev_20A, ev_21A, evs_0A, evs_1A, evO_0A, evO_1A, evT_0A, evT_1A, evT_2A, evT_3A, evT_4A, evT_5A, evT_6A, evT_7A, evT_8A, evT_9A, evT_10A, evT_11A, evT_12A, evTs_0A, evTs_1A, evI_0A, evI_1A, evI_2A, evI_3A, evI_4A, evG_0A, evG_1A, evG_2A, evS_0A, evS_1A, evS_2A, evS_3A, evS_4A, evS_5A, evS_6A, evS_7A, evS_8A, evS_9A, evS_10A, bindO_ok, bindO_exn, bindO_bad, Res.bind_ok, Res.bind_exn, Res.bind_bad, Res.bindN_ok, optR_some, K0.d, EC, setN, setNs, wipeR, List.map_cons, List.map_nil, List.set_cons_zero, List.set_cons_succ, List.getElem?_cons_zero, List.getElem?_cons_succ, List.cons_append, List.nil_append, List.length_cons, List.length_nil, Option.map_some, Option.map_none, Nat.reduceAdd, Nat.reduceSub, Nat.reduceLeDiff, if_true, if_false, Bool.false_eq_true, List.replicate, evB_nil, evB_cons, seqO_nx, seqO_rt, seqO_exn, endD_exn, cmp_eq_int, cmp_ne_int, cmp_eq_bl, cmp_ne_bl, Bool.not_true, Bool.not_false, List.filterMap_cons, List.filterMap_nil, truth_bl, truth_int, truth_non, truth_tup, truth_lst, cmp_lt, cmp_le, cmp_gt, cmp_ge, cmp_in, cmp_inL, cmp_notin, ix_tup, ix_lst, ix_kl, add_int_true, sub_int_true, add_tup_true, pow_int_true, mul_tup_true, add_lst_true, sl_tup_true, sl_lst_true, sl_kl_true, len_tup_true, tuple_tup_true, list_tup_true, len_lst_true, tuple_lst_true, list_lst_true, len_kl_true, tuple_kl_true, list_kl_true, tuple_ref_true, int_int_true, int_bl_true, abs_int_true, all_lst_true, any_lst_true, sum_lst_true, max_lst_true, add_int_false, sub_int_false, add_tup_false, pow_int_false, mul_tup_false, add_lst_false, sl_tup_false, sl_lst_false, sl_kl_false, len_tup_false, tuple_tup_false, list_tup_false, len_lst_false, tuple_lst_false, list_lst_false, len_kl_false, tuple_kl_false, list_kl_false, tuple_ref_false, int_int_false, int_bl_false, abs_int_false, all_lst_false, any_lst_false, sum_lst_false, max_lst_false, newL_f, newL_t, sv_tup, sv_lst, sv_kl, se_tup, se_lst, se_kl, sz_tup, sz_lst, all_const, beq_self_eq_true, eq_self, decide_true, iD_len, in_iD, in_iDL, filter_tt, map_idd, atI_zero, blsOf_map, intsOf_map, all_map_id, cut_tail, is_int_n, isnot_int_n, is_bl_n, isnot_bl_n, is_str_n, isnot_str_n, is_tup_n, isnot_tup_n, is_lst_n, isnot_lst_n, is_kl_n, isnot_kl_n, is_non_n, isnot_non_n, is_bl_bl, seq_ref0, lst_ref0, own_ref0, truth_ref0, ix_ref0, app_ref0, tuple_ref0, len_ref0, set_ref0, isSome_some, atI_last, ix3_0, ix3_1, ix3_2, at3_1, at3_2, isi_non_int, isi_non_bl, isi_non_str, isi_non_tup, isi_non_lst, isi_non_lst_tup, isi_non_bl_str, isi_bl_int, isi_bl_bl, isi_bl_str, isi_bl_tup, isi_bl_lst, isi_bl_lst_tup, isi_bl_bl_str, isi_int_int, isi_int_bl, isi_int_str, isi_int_tup, isi_int_lst, isi_int_lst_tup, isi_int_bl_str, isi_str_int, isi_str_bl, isi_str_str, isi_str_tup, isi_str_lst, isi_str_lst_tup, isi_str_bl_str, isi_tup_int, isi_tup_bl, isi_tup_str, isi_tup_tup, isi_tup_lst, isi_tup_lst_tup, isi_tup_bl_str, isi_lst_int, isi_lst_bl, isi_lst_str, isi_lst_tup, isi_lst_lst, isi_lst_lst_tup, isi_lst_bl_str, isi_kl_int, isi_kl_bl, isi_kl_str, isi_kl_tup, isi_kl_lst, isi_kl_lst_tup, isi_kl_bl_str, endD_rt, endD_nx, seq_tupD, seq_lstD, mm_int, q]
/-! ### covers and heads -/
def coverR (ks row : List Int) : List Int := sset (row.map fun k => under ks k).flatten
def headB (ks row : List Int) (o : Int) : Bool := !(row.any fun x => decide (o ≠ x) && decide (x ∈ line ks o))
def headR (ks row : List Int) : List Int := sset (row.filter fun o => headB ks row o)
theorem under_len {ks : List Int} {k : Int} : (under ks k).length ≤ ks.length := by
  unfold under
  rw [List.length_map]
  exact Nat.le_trans (List.length_filter_le _ _) (by rw [List.length_range]; exact Nat.le_refl _)
theorem cover_bound {ks : List Int} : ∀ row : List Int, (row.map fun k => under ks k).flatten.length ≤ row.length * ks.length
  | [] => by simp
  | x :: r => by
    have := cover_bound (ks := ks) r
    have := under_len (ks := ks) (k := x)
    simp only [List.map_cons, List.flatten_cons, List.length_append, List.length_cons, Nat.succ_mul]
    omega
theorem e_coveredIn {n : Nat} {ks row : List Int} {S : Store} (h : isK ks = true) (h7 : ks.length ≤ 7) (hr : rowOk ks row) : E (n + 4) 17 [.tup (iD ks), .tup (iD row)] S = .ok (.tup (iD (coverR ks row))) S := by
  have rl := row_len hr
  have cb : (row.map fun k => under ks k).flatten.length ≤ 49 := Nat.le_trans (cover_bound row) (Nat.mul_le_mul (Nat.le_trans rl h7) h7)
  refine callP (fd := d17.fd) rfl rfl rfl (by simp only [D.pures, D.pure, iD_pures, Bool.and_true]) (S1 := []) ?_ (by simp only [D.pure]; exact iD_pures _)
  show runB (C (n + 3)) ⟨2, 3, true, b17⟩ _ _ = _
  have l1 := lc_pureA (src := .seq (iD row)) (tg := evG (C (n + 3)) (.name 2)) (tt := evTs (C (n + 3)) .nil) (te := ev (C (n + 3)) (.call 12 (.cons (.var 0) (.cons (.var 2) .nil)))) (ρ := [some (.tup (iD ks)), some (.tup (iD row)), none]) (S := []) (w := 1000)
    row D.int (fun _ => true) (fun k => D.tup (iD (under ks k))) (fun x => [some (.tup (iD ks)), some (.tup (iD row)), some (.int x)]) (fun i => at_seq i) (fun x hx => ⟨rfl, rfl, fun _ => by
      have q : callN (tblOf tbl) (cnOf cis) 1000 (n + 3) 12 [.tup (iD ks), .int x] [] = .ok (.tup (iD (under ks x))) [] := e_under h
      simp only [runB, ev_0A, ev_1A, ev_2A, ev_3A, ev_4A, ev_5A, ev_6A, ev_7A, ev_8A, ev_9A, ev_10A, ev_11A, ev_12A, ev_13A, ev_14A, ev_15A, ev_16A, ev_17A, ev_18A, ev_19A, ev_20A, ev_21A, evs_0A, evs_1A, evO_0A, evO_1A, evT_0A, evT_1A, evT_2A, evT_3A, evT_4A, evT_5A, evT_6A, evT_7A, evT_8A, evT_9A, evT_10A, evT_11A, evT_12A, evTs_0A, evTs_1A, evI_0A, evI_1A, evI_2A, evI_3A, evI_4A, evG_0A, evG_1A, evG_2A, evS_0A, evS_1A, evS_2A, evS_3A, evS_4A, evS_5A, evS_6A, evS_7A, evS_8A, evS_9A, evS_10A, bindO_ok, bindO_exn, bindO_bad, Res.bind_ok, Res.bind_exn, Res.bind_bad, Res.bindN_ok, optR_some, K0.d, EC, setN, setNs, wipeR, List.map_cons, List.map_nil, List.set_cons_zero, List.set_cons_succ, List.getElem?_cons_zero, List.getElem?_cons_succ, List.cons_append, List.nil_append, List.length_cons, List.length_nil, Option.map_some, Option.map_none, Nat.reduceAdd, Nat.reduceSub, Nat.reduceLeDiff, if_true, if_false, Bool.false_eq_true, List.replicate, evB_nil, evB_cons, seqO_nx, seqO_rt, seqO_exn, endD_exn, cmp_eq_int, cmp_ne_int, cmp_eq_bl, cmp_ne_bl, Bool.not_true, Bool.not_false, List.filterMap_cons, List.filterMap_nil, truth_bl, truth_int, truth_non, truth_tup, truth_lst, cmp_lt, cmp_le, cmp_gt, cmp_ge, cmp_in, cmp_inL, cmp_notin, ix_tup, ix_lst, ix_kl, add_int_true, sub_int_true, add_tup_true, pow_int_true, mul_tup_true, add_lst_true, sl_tup_true, sl_lst_true, sl_kl_true, len_tup_true, tuple_tup_true, list_tup_true, len_lst_true, tuple_lst_true, list_lst_true, len_kl_true, tuple_kl_true, list_kl_true, tuple_ref_true, int_int_true, int_bl_true, abs_int_true, all_lst_true, any_lst_true, sum_lst_true, max_lst_true, add_int_false, sub_int_false, add_tup_false, pow_int_false, mul_tup_false, add_lst_false, sl_tup_false, sl_lst_false, sl_kl_false, len_tup_false, tuple_tup_false, list_tup_false, len_lst_false, tuple_lst_false, list_lst_false, len_kl_false, tuple_kl_false, list_kl_false, tuple_ref_false, int_int_false, int_bl_false, abs_int_false, all_lst_false, any_lst_false, sum_lst_false, max_lst_false, newL_f, newL_t, sv_tup, sv_lst, sv_kl, se_tup, se_lst, se_kl, sz_tup, sz_lst, all_const, beq_self_eq_true, eq_self, decide_true, iD_len, in_iD, in_iDL, filter_tt, map_idd, atI_zero, blsOf_map, intsOf_map, all_map_id, cut_tail, is_int_n, isnot_int_n, is_bl_n, isnot_bl_n, is_str_n, isnot_str_n, is_tup_n, isnot_tup_n, is_lst_n, isnot_lst_n, is_kl_n, isnot_kl_n, is_non_n, isnot_non_n, is_bl_bl, seq_ref0, lst_ref0, own_ref0, truth_ref0, ix_ref0, app_ref0, tuple_ref0, len_ref0, set_ref0, isSome_some, atI_last, ix3_0, ix3_1, ix3_2, at3_1, at3_2, isi_non_int, isi_non_bl, isi_non_str, isi_non_tup, isi_non_lst, isi_non_lst_tup, isi_non_bl_str, isi_bl_int, isi_bl_bl, isi_bl_str, isi_bl_tup, isi_bl_lst, isi_bl_lst_tup, isi_bl_bl_str, isi_int_int, isi_int_bl, isi_int_str, isi_int_tup, isi_int_lst, isi_int_lst_tup, isi_int_bl_str, isi_str_int, isi_str_bl, isi_str_str, isi_str_tup, isi_str_lst, isi_str_lst_tup, isi_str_bl_str, isi_tup_int, isi_tup_bl, isi_tup_str, isi_tup_tup, isi_tup_lst, isi_tup_lst_tup, isi_tup_bl_str, isi_lst_int, isi_lst_bl, isi_lst_str, isi_lst_tup, isi_lst_lst, isi_lst_lst_tup, isi_lst_bl_str, isi_kl_int, isi_kl_bl, isi_kl_str, isi_kl_tup, isi_kl_lst, isi_kl_lst_tup, isi_kl_bl_str, endD_rt, endD_nx, seq_tupD, seq_lstD, mm_int, q]⟩) (by omega)
  have q2 : callN (tblOf tbl) (cnOf cis) 1000 (n + 3) 5 [.lst (row.map fun k => D.tup (iD (under ks k)))] [] = .ok (.lst (iD (row.map fun k => under ks k).flatten)) [] := by
    have := e_joined (n := n + 2) (L := row.map fun k => under ks k) (S := []) (by rw [List.length_map]; omega) (by omega)
    rw [List.map_map] at this
    exact this
  have q3 : callN (tblOf tbl) (cnOf cis) 1000 (n + 3) 6 [.lst (iD (row.map fun k => under ks k).flatten)] [] = .ok (.tup (iD (coverR ks row))) [] := e_setOf (n := n + 2) rfl (by omega)
  simp only [b17, runB, ev_0A, ev_1A, ev_2A, ev_3A, ev_4A, ev_5A, ev_6A, ev_7A, ev_8A, ev_9A, ev_10A, ev_11A, ev_12A, ev_13A, ev_14A, ev_15A, ev_16A, ev_17A, ev_18A, ev_19A, ev_20A, ev_21A, evs_0A, evs_1A, evO_0A, evO_1A, evT_0A, evT_1A, evT_2A, evT_3A, evT_4A, evT_5A, evT_6A, evT_7A, evT_8A, evT_9A, evT_10A, evT_11A, evT_12A, evTs_0A, evTs_1A, evI_0A, evI_1A, evI_2A, evI_3A, evI_4A, evG_0A, evG_1A, evG_2A, evS_0A, evS_1A, evS_2A, evS_3A, evS_4A, evS_5A, evS_6A, evS_7A, evS_8A, evS_9A, evS_10A, bindO_ok, bindO_exn, bindO_bad, Res.bind_ok, Res.bind_exn, Res.bind_bad, Res.bindN_ok, optR_some, K0.d, EC, setN, setNs, wipeR, List.map_cons, List.map_nil, List.set_cons_zero, List.set_cons_succ, List.getElem?_cons_zero, List.getElem?_cons_succ, List.cons_append, List.nil_append, List.length_cons, List.length_nil, Option.map_some, Option.map_none, Nat.reduceAdd, Nat.reduceSub, Nat.reduceLeDiff, if_true, if_false, Bool.false_eq_true, List.replicate, evB_nil, evB_cons, seqO_nx, seqO_rt, seqO_exn, endD_exn, cmp_eq_int, cmp_ne_int, cmp_eq_bl, cmp_ne_bl, Bool.not_true, Bool.not_false, List.filterMap_cons, List.filterMap_nil, truth_bl, truth_int, truth_non, truth_tup, truth_lst, cmp_lt, cmp_le, cmp_gt, cmp_ge, cmp_in, cmp_inL, cmp_notin, ix_tup, ix_lst, ix_kl, add_int_true, sub_int_true, add_tup_true, pow_int_true, mul_tup_true, add_lst_true, sl_tup_true, sl_lst_true, sl_kl_true, len_tup_true, tuple_tup_true, list_tup_true, len_lst_true, tuple_lst_true, list_lst_true, len_kl_true, tuple_kl_true, list_kl_true, tuple_ref_true, int_int_true, int_bl_true, abs_int_true, all_lst_true, any_lst_true, sum_lst_true, max_lst_true, add_int_false, sub_int_false, add_tup_false, pow_int_false, mul_tup_false, add_lst_false, sl_tup_false, sl_lst_false, sl_kl_false, len_tup_false, tuple_tup_false, list_tup_false, len_lst_false, tuple_lst_false, list_lst_false, len_kl_false, tuple_kl_false, list_kl_false, tuple_ref_false, int_int_false, int_bl_false, abs_int_false, all_lst_false, any_lst_false, sum_lst_false, max_lst_false, newL_f, newL_t, sv_tup, sv_lst, sv_kl, se_tup, se_lst, se_kl, sz_tup, sz_lst, all_const, beq_self_eq_true, eq_self, decide_true, iD_len, in_iD, in_iDL, filter_tt, map_idd, atI_zero, blsOf_map, intsOf_map, all_map_id, cut_tail, is_int_n, isnot_int_n, is_bl_n, isnot_bl_n, is_str_n, isnot_str_n, is_tup_n, isnot_tup_n, is_lst_n, isnot_lst_n, is_kl_n, isnot_kl_n, is_non_n, isnot_non_n, is_bl_bl, seq_ref0, lst_ref0, own_ref0, truth_ref0, ix_ref0, app_ref0, tuple_ref0, len_ref0, set_ref0, isSome_some, atI_last, ix3_0, ix3_1, ix3_2, at3_1, at3_2, isi_non_int, isi_non_bl, isi_non_str, isi_non_tup, isi_non_lst, isi_non_lst_tup, isi_non_bl_str, isi_bl_int, isi_bl_bl, isi_bl_str, isi_bl_tup, isi_bl_lst, isi_bl_lst_tup, isi_bl_bl_str, isi_int_int, isi_int_bl, isi_int_str, isi_int_tup, isi_int_lst, isi_int_lst_tup, isi_int_bl_str, isi_str_int, isi_str_bl, isi_str_str, isi_str_tup, isi_str_lst, isi_str_lst_tup, isi_str_bl_str, isi_tup_int, isi_tup_bl, isi_tup_str, isi_tup_tup, isi_tup_lst, isi_tup_lst_tup, isi_tup_bl_str, isi_lst_int, isi_lst_bl, isi_lst_str, isi_lst_tup, isi_lst_lst, isi_lst_lst_tup, isi_lst_bl_str, isi_kl_int, isi_kl_bl, isi_kl_str, isi_kl_tup, isi_kl_lst, isi_kl_lst_tup, isi_kl_bl_str, endD_rt, endD_nx, seq_tupD, seq_lstD, mm_int, l1, q2, q3]
theorem e_headsIn {n : Nat} {ks row : List Int} {S : Store} (h : isK ks = true) (h7 : ks.length ≤ 7) (hr : rowOk ks row) : E (n + 3) 18 [.tup (iD ks), .tup (iD row)] S = .ok (.tup (iD (headR ks row))) S := by
  have rl := row_len hr
  refine callP (fd := d18.fd) rfl rfl rfl (by simp only [D.pures, D.pure, iD_pures, Bool.and_true]) (S1 := [.lst (iD (row.filter fun o => headB ks row o))]) ?_ (by simp only [D.pure]; exact iD_pures _)
  show runB (C (n + 2)) ⟨2, 5, true, b18⟩ _ _ = _
  have loop := for_inv (src := .seq (iD row)) (tg := evG (C (n + 2)) (.name 3)) (N := row.length)
    (tb := evB (C (n + 2)) (.cons (.ite (.not (.bcall false .any (.lc false (.and (.cmp .ne (.var 3) (.var 4)) (.call 11 (.cons (.var 0) (.cons (.var 3) (.cons (.var 4) .nil))))) (.name 4) (.val (.var 1)) .nil [4]))) (.cons (.expr (.meth (.var 2) .append (.cons (.var 3) .nil))) .nil) .nil) .nil))
    (fun i ρ St => ∃ x : Option D, ρ = [some (.tup (iD ks)), some (.tup (iD row)), some (.ref 0), x, none] ∧ St = [.lst (iD ((row.take i).filter fun o => headB ks row o))])
    (fun o => ∃ x : Option D, o = .nx [some (.tup (iD ks)), some (.tup (iD row)), some (.ref 0), x, none] [.lst (iD (row.filter fun o => headB ks row o))])
    (by
      rintro i ρ St hi ⟨x, rfl, rfl⟩
      have z : row[i]? = some row[i] := List.getElem?_eq_getElem hi
      have hz := hr.2 row[i] (List.getElem_mem hi)
      generalize hw : row[i] = w at *
      refine ⟨.int w, [some (.tup (iD ks)), some (.tup (iD row)), some (.ref 0), some (.int w), none], _, ?_, rfl, ?_⟩
      · rw [at_seq, z]
        rfl
      · have l1 := lc_pureA (src := .seq (iD row)) (tg := evG (C (n + 2)) (.name 4)) (tt := evTs (C (n + 2)) .nil) (te := ev (C (n + 2)) (.and (.cmp .ne (.var 3) (.var 4)) (.call 11 (.cons (.var 0) (.cons (.var 3) (.cons (.var 4) .nil)))))) (ρ := [some (.tup (iD ks)), some (.tup (iD row)), some (.ref 0), some (.int w), none]) (S := [.lst (iD ((row.take i).filter fun o => headB ks row o))]) (w := 1000)
          row D.int (fun _ => true) (fun y => D.bl (decide (w ≠ y) && decide (y ∈ line ks w))) (fun y => [some (.tup (iD ks)), some (.tup (iD row)), some (.ref 0), some (.int w), some (.int y)]) (fun i => at_seq i) (fun y hy => ⟨rfl, rfl, fun _ => by
            have q : ∀ S : Store, callN (tblOf tbl) (cnOf cis) 1000 (n + 2) 11 [.tup (iD ks), .int w, .int y] S = .ok (.bl (decide (y ∈ line ks w))) S := fun S => e_isUnder h hz.1 hz.2
            by_cases e : w = y
            · simp only [runB, ev_0A, ev_1A, ev_2A, ev_3A, ev_4A, ev_5A, ev_6A, ev_7A, ev_8A, ev_9A, ev_10A, ev_11A, ev_12A, ev_13A, ev_14A, ev_15A, ev_16A, ev_17A, ev_18A, ev_19A, ev_20A, ev_21A, evs_0A, evs_1A, evO_0A, evO_1A, evT_0A, evT_1A, evT_2A, evT_3A, evT_4A, evT_5A, evT_6A, evT_7A, evT_8A, evT_9A, evT_10A, evT_11A, evT_12A, evTs_0A, evTs_1A, evI_0A, evI_1A, evI_2A, evI_3A, evI_4A, evG_0A, evG_1A, evG_2A, evS_0A, evS_1A, evS_2A, evS_3A, evS_4A, evS_5A, evS_6A, evS_7A, evS_8A, evS_9A, evS_10A, bindO_ok, bindO_exn, bindO_bad, Res.bind_ok, Res.bind_exn, Res.bind_bad, Res.bindN_ok, optR_some, K0.d, EC, setN, setNs, wipeR, List.map_cons, List.map_nil, List.set_cons_zero, List.set_cons_succ, List.getElem?_cons_zero, List.getElem?_cons_succ, List.cons_append, List.nil_append, List.length_cons, List.length_nil, Option.map_some, Option.map_none, Nat.reduceAdd, Nat.reduceSub, Nat.reduceLeDiff, if_true, if_false, Bool.false_eq_true, List.replicate, evB_nil, evB_cons, seqO_nx, seqO_rt, seqO_exn, endD_exn, cmp_eq_int, cmp_ne_int, cmp_eq_bl, cmp_ne_bl, Bool.not_true, Bool.not_false, List.filterMap_cons, List.filterMap_nil, truth_bl, truth_int, truth_non, truth_tup, truth_lst, cmp_lt, cmp_le, cmp_gt, cmp_ge, cmp_in, cmp_inL, cmp_notin, ix_tup, ix_lst, ix_kl, add_int_true, sub_int_true, add_tup_true, pow_int_true, mul_tup_true, add_lst_true, sl_tup_true, sl_lst_true, sl_kl_true, len_tup_true, tuple_tup_true, list_tup_true, len_lst_true, tuple_lst_true, list_lst_true, len_kl_true, tuple_kl_true, list_kl_true, tuple_ref_true, int_int_true, int_bl_true, abs_int_true, all_lst_true, any_lst_true, sum_lst_true, max_lst_true, add_int_false, sub_int_false, add_tup_false, pow_int_false, mul_tup_false, add_lst_false, sl_tup_false, sl_lst_false, sl_kl_false, len_tup_false, tuple_tup_false, list_tup_false, len_lst_false, tuple_lst_false, list_lst_false, len_kl_false, tuple_kl_false, list_kl_false, tuple_ref_false, int_int_false, int_bl_false, abs_int_false, all_lst_false, any_lst_false, sum_lst_false, max_lst_false, newL_f, newL_t, sv_tup, sv_lst, sv_kl, se_tup, se_lst, se_kl, sz_tup, sz_lst, all_const, beq_self_eq_true, eq_self, decide_true, iD_len, in_iD, in_iDL, filter_tt, map_idd, atI_zero, blsOf_map, intsOf_map, all_map_id, cut_tail, is_int_n, isnot_int_n, is_bl_n, isnot_bl_n, is_str_n, isnot_str_n, is_tup_n, isnot_tup_n, is_lst_n, isnot_lst_n, is_kl_n, isnot_kl_n, is_non_n, isnot_non_n, is_bl_bl, seq_ref0, lst_ref0, own_ref0, truth_ref0, ix_ref0, app_ref0, tuple_ref0, len_ref0, set_ref0, isSome_some, atI_last, ix3_0, ix3_1, ix3_2, at3_1, at3_2, isi_non_int, isi_non_bl, isi_non_str, isi_non_tup, isi_non_lst, isi_non_lst_tup, isi_non_bl_str, isi_bl_int, isi_bl_bl, isi_bl_str, isi_bl_tup, isi_bl_lst, isi_bl_lst_tup, isi_bl_bl_str, isi_int_int, isi_int_bl, isi_int_str, isi_int_tup, isi_int_lst, isi_int_lst_tup, isi_int_bl_str, isi_str_int, isi_str_bl, isi_str_str, isi_str_tup, isi_str_lst, isi_str_lst_tup, isi_str_bl_str, isi_tup_int, isi_tup_bl, isi_tup_str, isi_tup_tup, isi_tup_lst, isi_tup_lst_tup, isi_tup_bl_str, isi_lst_int, isi_lst_bl, isi_lst_str, isi_lst_tup, isi_lst_lst, isi_lst_lst_tup, isi_lst_bl_str, isi_kl_int, isi_kl_bl, isi_kl_str, isi_kl_tup, isi_kl_lst, isi_kl_lst_tup, isi_kl_bl_str, endD_rt, endD_nx, seq_tupD, seq_lstD, mm_int, e, decide_true, Bool.not_true, ne_eq, not_true_eq_false, decide_false, Bool.false_and]
            · simp only [runB, ev_0A, ev_1A, ev_2A, ev_3A, ev_4A, ev_5A, ev_6A, ev_7A, ev_8A, ev_9A, ev_10A, ev_11A, ev_12A, ev_13A, ev_14A, ev_15A, ev_16A, ev_17A, ev_18A, ev_19A, ev_20A, ev_21A, evs_0A, evs_1A, evO_0A, evO_1A, evT_0A, evT_1A, evT_2A, evT_3A, evT_4A, evT_5A, evT_6A, evT_7A, evT_8A, evT_9A, evT_10A, evT_11A, evT_12A, evTs_0A, evTs_1A, evI_0A, evI_1A, evI_2A, evI_3A, evI_4A, evG_0A, evG_1A, evG_2A, evS_0A, evS_1A, evS_2A, evS_3A, evS_4A, evS_5A, evS_6A, evS_7A, evS_8A, evS_9A, evS_10A, bindO_ok, bindO_exn, bindO_bad, Res.bind_ok, Res.bind_exn, Res.bind_bad, Res.bindN_ok, optR_some, K0.d, EC, setN, setNs, wipeR, List.map_cons, List.map_nil, List.set_cons_zero, List.set_cons_succ, List.getElem?_cons_zero, List.getElem?_cons_succ, List.cons_append, List.nil_append, List.length_cons, List.length_nil, Option.map_some, Option.map_none, Nat.reduceAdd, Nat.reduceSub, Nat.reduceLeDiff, if_true, if_false, Bool.false_eq_true, List.replicate, evB_nil, evB_cons, seqO_nx, seqO_rt, seqO_exn, endD_exn, cmp_eq_int, cmp_ne_int, cmp_eq_bl, cmp_ne_bl, Bool.not_true, Bool.not_false, List.filterMap_cons, List.filterMap_nil, truth_bl, truth_int, truth_non, truth_tup, truth_lst, cmp_lt, cmp_le, cmp_gt, cmp_ge, cmp_in, cmp_inL, cmp_notin, ix_tup, ix_lst, ix_kl, add_int_true, sub_int_true, add_tup_true, pow_int_true, mul_tup_true, add_lst_true, sl_tup_true, sl_lst_true, sl_kl_true, len_tup_true, tuple_tup_true, list_tup_true, len_lst_true, tuple_lst_true, list_lst_true, len_kl_true, tuple_kl_true, list_kl_true, tuple_ref_true, int_int_true, int_bl_true, abs_int_true, all_lst_true, any_lst_true, sum_lst_true, max_lst_true, add_int_false, sub_int_false, add_tup_false, pow_int_false, mul_tup_false, add_lst_false, sl_tup_false, sl_lst_false, sl_kl_false, len_tup_false, tuple_tup_false, list_tup_false, len_lst_false, tuple_lst_false, list_lst_false, len_kl_false, tuple_kl_false, list_kl_false, tuple_ref_false, int_int_false, int_bl_false, abs_int_false, all_lst_false, any_lst_false, sum_lst_false, max_lst_false, newL_f, newL_t, sv_tup, sv_lst, sv_kl, se_tup, se_lst, se_kl, sz_tup, sz_lst, all_const, beq_self_eq_true, eq_self, decide_true, iD_len, in_iD, in_iDL, filter_tt, map_idd, atI_zero, blsOf_map, intsOf_map, all_map_id, cut_tail, is_int_n, isnot_int_n, is_bl_n, isnot_bl_n, is_str_n, isnot_str_n, is_tup_n, isnot_tup_n, is_lst_n, isnot_lst_n, is_kl_n, isnot_kl_n, is_non_n, isnot_non_n, is_bl_bl, seq_ref0, lst_ref0, own_ref0, truth_ref0, ix_ref0, app_ref0, tuple_ref0, len_ref0, set_ref0, isSome_some, atI_last, ix3_0, ix3_1, ix3_2, at3_1, at3_2, isi_non_int, isi_non_bl, isi_non_str, isi_non_tup, isi_non_lst, isi_non_lst_tup, isi_non_bl_str, isi_bl_int, isi_bl_bl, isi_bl_str, isi_bl_tup, isi_bl_lst, isi_bl_lst_tup, isi_bl_bl_str, isi_int_int, isi_int_bl, isi_int_str, isi_int_tup, isi_int_lst, isi_int_lst_tup, isi_int_bl_str, isi_str_int, isi_str_bl, isi_str_str, isi_str_tup, isi_str_lst, isi_str_lst_tup, isi_str_bl_str, isi_tup_int, isi_tup_bl, isi_tup_str, isi_tup_tup, isi_tup_lst, isi_tup_lst_tup, isi_tup_bl_str, isi_lst_int, isi_lst_bl, isi_lst_str, isi_lst_tup, isi_lst_lst, isi_lst_lst_tup, isi_lst_bl_str, isi_kl_int, isi_kl_bl, isi_kl_str, isi_kl_tup, isi_kl_lst, isi_kl_lst_tup, isi_kl_bl_str, endD_rt, endD_nx, seq_tupD, seq_lstD, mm_int, e, decide_false, Bool.not_false, q, ne_eq, not_false_eq_true, decide_true, Bool.true_and]⟩) (by omega)
        have et : row.take (i + 1) = row.take i ++ [w] := by rw [List.take_succ, z]; rfl
        have lt : ((row.take i).filter fun o => headB ks row o).length < 16777216 := by
          have := List.length_filter_le (fun o => headB ks row o) (row.take i)
          rw [List.length_take] at this
          omega
        have ha : (row.map fun y => (decide (w ≠ y) && decide (y ∈ line ks w))).any id = row.any fun y => (decide (w ≠ y) && decide (y ∈ line ks w)) := by
          rw [List.any_map]
          rfl
        simp only [runB, ev_0A, ev_1A, ev_2A, ev_3A, ev_4A, ev_5A, ev_6A, ev_7A, ev_8A, ev_9A, ev_10A, ev_11A, ev_12A, ev_13A, ev_14A, ev_15A, ev_16A, ev_17A, ev_18A, ev_19A, ev_20A, ev_21A, evs_0A, evs_1A, evO_0A, evO_1A, evT_0A, evT_1A, evT_2A, evT_3A, evT_4A, evT_5A, evT_6A, evT_7A, evT_8A, evT_9A, evT_10A, evT_11A, evT_12A, evTs_0A, evTs_1A, evI_0A, evI_1A, evI_2A, evI_3A, evI_4A, evG_0A, evG_1A, evG_2A, evS_0A, evS_1A, evS_2A, evS_3A, evS_4A, evS_5A, evS_6A, evS_7A, evS_8A, evS_9A, evS_10A, bindO_ok, bindO_exn, bindO_bad, Res.bind_ok, Res.bind_exn, Res.bind_bad, Res.bindN_ok, optR_some, K0.d, EC, setN, setNs, wipeR, List.map_cons, List.map_nil, List.set_cons_zero, List.set_cons_succ, List.getElem?_cons_zero, List.getElem?_cons_succ, List.cons_append, List.nil_append, List.length_cons, List.length_nil, Option.map_some, Option.map_none, Nat.reduceAdd, Nat.reduceSub, Nat.reduceLeDiff, if_true, if_false, Bool.false_eq_true, List.replicate, evB_nil, evB_cons, seqO_nx, seqO_rt, seqO_exn, endD_exn, cmp_eq_int, cmp_ne_int, cmp_eq_bl, cmp_ne_bl, Bool.not_true, Bool.not_false, List.filterMap_cons, List.filterMap_nil, truth_bl, truth_int, truth_non, truth_tup, truth_lst, cmp_lt, cmp_le, cmp_gt, cmp_ge, cmp_in, cmp_inL, cmp_notin, ix_tup, ix_lst, ix_kl, add_int_true, sub_int_true, add_tup_true, pow_int_true, mul_tup_true, add_lst_true, sl_tup_true, sl_lst_true, sl_kl_true, len_tup_true, tuple_tup_true, list_tup_true, len_lst_true, tuple_lst_true, list_lst_true, len_kl_true, tuple_kl_true, list_kl_true, tuple_ref_true, int_int_true, int_bl_true, abs_int_true, all_lst_true, any_lst_true, sum_lst_true, max_lst_true, add_int_false, sub_int_false, add_tup_false, pow_int_false, mul_tup_false, add_lst_false, sl_tup_false, sl_lst_false, sl_kl_false, len_tup_false, tuple_tup_false, list_tup_false, len_lst_false, tuple_lst_false, list_lst_false, len_kl_false, tuple_kl_false, list_kl_false, tuple_ref_false, int_int_false, int_bl_false, abs_int_false, all_lst_false, any_lst_false, sum_lst_false, max_lst_false, newL_f, newL_t, sv_tup, sv_lst, sv_kl, se_tup, se_lst, se_kl, sz_tup, sz_lst, all_const, beq_self_eq_true, eq_self, decide_true, iD_len, in_iD, in_iDL, filter_tt, map_idd, atI_zero, blsOf_map, intsOf_map, all_map_id, cut_tail, is_int_n, isnot_int_n, is_bl_n, isnot_bl_n, is_str_n, isnot_str_n, is_tup_n, isnot_tup_n, is_lst_n, isnot_lst_n, is_kl_n, isnot_kl_n, is_non_n, isnot_non_n, is_bl_bl, seq_ref0, lst_ref0, own_ref0, truth_ref0, ix_ref0, app_ref0, tuple_ref0, len_ref0, set_ref0, isSome_some, atI_last, ix3_0, ix3_1, ix3_2, at3_1, at3_2, isi_non_int, isi_non_bl, isi_non_str, isi_non_tup, isi_non_lst, isi_non_lst_tup, isi_non_bl_str, isi_bl_int, isi_bl_bl, isi_bl_str, isi_bl_tup, isi_bl_lst, isi_bl_lst_tup, isi_bl_bl_str, isi_int_int, isi_int_bl, isi_int_str, isi_int_tup, isi_int_lst, isi_int_lst_tup, isi_int_bl_str, isi_str_int, isi_str_bl, isi_str_str, isi_str_tup, isi_str_lst, isi_str_lst_tup, isi_str_bl_str, isi_tup_int, isi_tup_bl, isi_tup_str, isi_tup_tup, isi_tup_lst, isi_tup_lst_tup, isi_tup_bl_str, isi_lst_int, isi_lst_bl, isi_lst_str, isi_lst_tup, isi_lst_lst, isi_lst_lst_tup, isi_lst_bl_str, isi_kl_int, isi_kl_bl, isi_kl_str, isi_kl_tup, isi_kl_lst, isi_kl_lst_tup, isi_kl_bl_str, endD_rt, endD_nx, seq_tupD, seq_lstD, mm_int, l1, any_lst_false, ha]
        cases hq : (row.any fun y => (decide (w ≠ y) && decide (y ∈ line ks w))) with
        | true =>
          simp only [runB, ev_0A, ev_1A, ev_2A, ev_3A, ev_4A, ev_5A, ev_6A, ev_7A, ev_8A, ev_9A, ev_10A, ev_11A, ev_12A, ev_13A, ev_14A, ev_15A, ev_16A, ev_17A, ev_18A, ev_19A, ev_20A, ev_21A, evs_0A, evs_1A, evO_0A, evO_1A, evT_0A, evT_1A, evT_2A, evT_3A, evT_4A, evT_5A, evT_6A, evT_7A, evT_8A, evT_9A, evT_10A, evT_11A, evT_12A, evTs_0A, evTs_1A, evI_0A, evI_1A, evI_2A, evI_3A, evI_4A, evG_0A, evG_1A, evG_2A, evS_0A, evS_1A, evS_2A, evS_3A, evS_4A, evS_5A, evS_6A, evS_7A, evS_8A, evS_9A, evS_10A, bindO_ok, bindO_exn, bindO_bad, Res.bind_ok, Res.bind_exn, Res.bind_bad, Res.bindN_ok, optR_some, K0.d, EC, setN, setNs, wipeR, List.map_cons, List.map_nil, List.set_cons_zero, List.set_cons_succ, List.getElem?_cons_zero, List.getElem?_cons_succ, List.cons_append, List.nil_append, List.length_cons, List.length_nil, Option.map_some, Option.map_none, Nat.reduceAdd, Nat.reduceSub, Nat.reduceLeDiff, if_true, if_false, Bool.false_eq_true, List.replicate, evB_nil, evB_cons, seqO_nx, seqO_rt, seqO_exn, endD_exn, cmp_eq_int, cmp_ne_int, cmp_eq_bl, cmp_ne_bl, Bool.not_true, Bool.not_false, List.filterMap_cons, List.filterMap_nil, truth_bl, truth_int, truth_non, truth_tup, truth_lst, cmp_lt, cmp_le, cmp_gt, cmp_ge, cmp_in, cmp_inL, cmp_notin, ix_tup, ix_lst, ix_kl, add_int_true, sub_int_true, add_tup_true, pow_int_true, mul_tup_true, add_lst_true, sl_tup_true, sl_lst_true, sl_kl_true, len_tup_true, tuple_tup_true, list_tup_true, len_lst_true, tuple_lst_true, list_lst_true, len_kl_true, tuple_kl_true, list_kl_true, tuple_ref_true, int_int_true, int_bl_true, abs_int_true, all_lst_true, any_lst_true, sum_lst_true, max_lst_true, add_int_false, sub_int_false, add_tup_false, pow_int_false, mul_tup_false, add_lst_false, sl_tup_false, sl_lst_false, sl_kl_false, len_tup_false, tuple_tup_false, list_tup_false, len_lst_false, tuple_lst_false, list_lst_false, len_kl_false, tuple_kl_false, list_kl_false, tuple_ref_false, int_int_false, int_bl_false, abs_int_false, all_lst_false, any_lst_false, sum_lst_false, max_lst_false, newL_f, newL_t, sv_tup, sv_lst, sv_kl, se_tup, se_lst, se_kl, sz_tup, sz_lst, all_const, beq_self_eq_true, eq_self, decide_true, iD_len, in_iD, in_iDL, filter_tt, map_idd, atI_zero, blsOf_map, intsOf_map, all_map_id, cut_tail, is_int_n, isnot_int_n, is_bl_n, isnot_bl_n, is_str_n, isnot_str_n, is_tup_n, isnot_tup_n, is_lst_n, isnot_lst_n, is_kl_n, isnot_kl_n, is_non_n, isnot_non_n, is_bl_bl, seq_ref0, lst_ref0, own_ref0, truth_ref0, ix_ref0, app_ref0, tuple_ref0, len_ref0, set_ref0, isSome_some, atI_last, ix3_0, ix3_1, ix3_2, at3_1, at3_2, isi_non_int, isi_non_bl, isi_non_str, isi_non_tup, isi_non_lst, isi_non_lst_tup, isi_non_bl_str, isi_bl_int, isi_bl_bl, isi_bl_str, isi_bl_tup, isi_bl_lst, isi_bl_lst_tup, isi_bl_bl_str, isi_int_int, isi_int_bl, isi_int_str, isi_int_tup, isi_int_lst, isi_int_lst_tup, isi_int_bl_str, isi_str_int, isi_str_bl, isi_str_str, isi_str_tup, isi_str_lst, isi_str_lst_tup, isi_str_bl_str, isi_tup_int, isi_tup_bl, isi_tup_str, isi_tup_tup, isi_tup_lst, isi_tup_lst_tup, isi_tup_bl_str, isi_lst_int, isi_lst_bl, isi_lst_str, isi_lst_tup, isi_lst_lst, isi_lst_lst_tup, isi_lst_bl_str, isi_kl_int, isi_kl_bl, isi_kl_str, isi_kl_tup, isi_kl_lst, isi_kl_lst_tup, isi_kl_bl_str, endD_rt, endD_nx, seq_tupD, seq_lstD, mm_int]
          refine ⟨_, rfl, ?_⟩
          have hb : headB ks row w = false := by unfold headB; rw [hq]; rfl
          rw [et, List.filter_append]
          simp [hb]
        | false =>
          simp only [runB, ev_0A, ev_1A, ev_2A, ev_3A, ev_4A, ev_5A, ev_6A, ev_7A, ev_8A, ev_9A, ev_10A, ev_11A, ev_12A, ev_13A, ev_14A, ev_15A, ev_16A, ev_17A, ev_18A, ev_19A, ev_20A, ev_21A, evs_0A, evs_1A, evO_0A, evO_1A, evT_0A, evT_1A, evT_2A, evT_3A, evT_4A, evT_5A, evT_6A, evT_7A, evT_8A, evT_9A, evT_10A, evT_11A, evT_12A, evTs_0A, evTs_1A, evI_0A, evI_1A, evI_2A, evI_3A, evI_4A, evG_0A, evG_1A, evG_2A, evS_0A, evS_1A, evS_2A, evS_3A, evS_4A, evS_5A, evS_6A, evS_7A, evS_8A, evS_9A, evS_10A, bindO_ok, bindO_exn, bindO_bad, Res.bind_ok, Res.bind_exn, Res.bind_bad, Res.bindN_ok, optR_some, K0.d, EC, setN, setNs, wipeR, List.map_cons, List.map_nil, List.set_cons_zero, List.set_cons_succ, List.getElem?_cons_zero, List.getElem?_cons_succ, List.cons_append, List.nil_append, List.length_cons, List.length_nil, Option.map_some, Option.map_none, Nat.reduceAdd, Nat.reduceSub, Nat.reduceLeDiff, if_true, if_false, Bool.false_eq_true, List.replicate, evB_nil, evB_cons, seqO_nx, seqO_rt, seqO_exn, endD_exn, cmp_eq_int, cmp_ne_int, cmp_eq_bl, cmp_ne_bl, Bool.not_true, Bool.not_false, List.filterMap_cons, List.filterMap_nil, truth_bl, truth_int, truth_non, truth_tup, truth_lst, cmp_lt, cmp_le, cmp_gt, cmp_ge, cmp_in, cmp_inL, cmp_notin, ix_tup, ix_lst, ix_kl, add_int_true, sub_int_true, add_tup_true, pow_int_true, mul_tup_true, add_lst_true, sl_tup_true, sl_lst_true, sl_kl_true, len_tup_true, tuple_tup_true, list_tup_true, len_lst_true, tuple_lst_true, list_lst_true, len_kl_true, tuple_kl_true, list_kl_true, tuple_ref_true, int_int_true, int_bl_true, abs_int_true, all_lst_true, any_lst_true, sum_lst_true, max_lst_true, add_int_false, sub_int_false, add_tup_false, pow_int_false, mul_tup_false, add_lst_false, sl_tup_false, sl_lst_false, sl_kl_false, len_tup_false, tuple_tup_false, list_tup_false, len_lst_false, tuple_lst_false, list_lst_false, len_kl_false, tuple_kl_false, list_kl_false, tuple_ref_false, int_int_false, int_bl_false, abs_int_false, all_lst_false, any_lst_false, sum_lst_false, max_lst_false, newL_f, newL_t, sv_tup, sv_lst, sv_kl, se_tup, se_lst, se_kl, sz_tup, sz_lst, all_const, beq_self_eq_true, eq_self, decide_true, iD_len, in_iD, in_iDL, filter_tt, map_idd, atI_zero, blsOf_map, intsOf_map, all_map_id, cut_tail, is_int_n, isnot_int_n, is_bl_n, isnot_bl_n, is_str_n, isnot_str_n, is_tup_n, isnot_tup_n, is_lst_n, isnot_lst_n, is_kl_n, isnot_kl_n, is_non_n, isnot_non_n, is_bl_bl, seq_ref0, lst_ref0, own_ref0, truth_ref0, ix_ref0, app_ref0, tuple_ref0, len_ref0, set_ref0, isSome_some, atI_last, ix3_0, ix3_1, ix3_2, at3_1, at3_2, isi_non_int, isi_non_bl, isi_non_str, isi_non_tup, isi_non_lst, isi_non_lst_tup, isi_non_bl_str, isi_bl_int, isi_bl_bl, isi_bl_str, isi_bl_tup, isi_bl_lst, isi_bl_lst_tup, isi_bl_bl_str, isi_int_int, isi_int_bl, isi_int_str, isi_int_tup, isi_int_lst, isi_int_lst_tup, isi_int_bl_str, isi_str_int, isi_str_bl, isi_str_str, isi_str_tup, isi_str_lst, isi_str_lst_tup, isi_str_bl_str, isi_tup_int, isi_tup_bl, isi_tup_str, isi_tup_tup, isi_tup_lst, isi_tup_lst_tup, isi_tup_bl_str, isi_lst_int, isi_lst_bl, isi_lst_str, isi_lst_tup, isi_lst_lst, isi_lst_lst_tup, isi_lst_bl_str, isi_kl_int, isi_kl_bl, isi_kl_str, isi_kl_tup, isi_kl_lst, isi_kl_lst_tup, isi_kl_bl_str, endD_rt, endD_nx, seq_tupD, seq_lstD, mm_int, if_pos lt]
          refine ⟨_, rfl, ?_⟩
          have hb : headB ks row w = true := by unfold headB; rw [hq]; rfl
          rw [et, List.filter_append, iD_app]
          simp [hb]
          rfl)
    (by
      rintro ρ St ⟨x, rfl, rfl⟩
      refine ⟨?_, x, ?_⟩
      · rw [at_seq, List.getElem?_eq_none (Nat.le_refl _)]
        rfl
      · rw [List.take_length])
    1000 0 [some (.tup (iD ks)), some (.tup (iD row)), some (.ref 0), none, none] [.lst []] (by omega) (by omega) ⟨none, rfl, rfl⟩
  obtain ⟨x, e⟩ := loop
  have q3 : callN (tblOf tbl) (cnOf cis) 1000 (n + 2) 6 [.ref 0] [.lst (iD (row.filter fun o => headB ks row o))] = .ok (.tup (iD (headR ks row))) [.lst (iD (row.filter fun o => headB ks row o))] := e_setOf (n := n + 1) rfl (by
    have := List.length_filter_le (fun o => headB ks row o) row
    omega)
  simp only [b18, runB, ev_0A, ev_1A, ev_2A, ev_3A, ev_4A, ev_5A, ev_6A, ev_7A, ev_8A, ev_9A, ev_10A, ev_11A, ev_12A, ev_13A, ev_14A, ev_15A, ev_16A, ev_17A, ev_18A, ev_19A, ev_20A, ev_21A, evs_0A, evs_1A, evO_0A, evO_1A, evT_0A, evT_1A, evT_2A, evT_3A, evT_4A, evT_5A, evT_6A, evT_7A, evT_8A, evT_9A, evT_10A, evT_11A, evT_12A, evTs_0A, evTs_1A, evI_0A, evI_1A, evI_2A, evI_3A, evI_4A, evG_0A, evG_1A, evG_2A, evS_0A, evS_1A, evS_2A, evS_3A, evS_4A, evS_5A, evS_6A, evS_7A, evS_8A, evS_9A, evS_10A, bindO_ok, bindO_exn, bindO_bad, Res.bind_ok, Res.bind_exn, Res.bind_bad, Res.bindN_ok, optR_some, K0.d, EC, setN, setNs, wipeR, List.map_cons, List.map_nil, List.set_cons_zero, List.set_cons_succ, List.getElem?_cons_zero, List.getElem?_cons_succ, List.cons_append, List.nil_append, List.length_cons, List.length_nil, Option.map_some, Option.map_none, Nat.reduceAdd, Nat.reduceSub, Nat.reduceLeDiff, if_true, if_false, Bool.false_eq_true, List.replicate, evB_nil, evB_cons, seqO_nx, seqO_rt, seqO_exn, endD_exn, cmp_eq_int, cmp_ne_int, cmp_eq_bl, cmp_ne_bl, Bool.not_true, Bool.not_false, List.filterMap_cons, List.filterMap_nil, truth_bl, truth_int, truth_non, truth_tup, truth_lst, cmp_lt, cmp_le, cmp_gt, cmp_ge, cmp_in, cmp_inL, cmp_notin, ix_tup, ix_lst, ix_kl, add_int_true, sub_int_true, add_tup_true, pow_int_true, mul_tup_true, add_lst_true, sl_tup_true, sl_lst_true, sl_kl_true, len_tup_true, tuple_tup_true, list_tup_true, len_lst_true, tuple_lst_true, list_lst_true, len_kl_true, tuple_kl_true, list_kl_true, tuple_ref_true, int_int_true, int_bl_true, abs_int_true, all_lst_true, any_lst_true, sum_lst_true, max_lst_true, add_int_false, sub_int_false, add_tup_false, pow_int_false, mul_tup_false, add_lst_false, sl_tup_false, sl_lst_false, sl_kl_false, len_tup_false, tuple_tup_false, list_tup_false, len_lst_false, tuple_lst_false, list_lst_false, len_kl_false, tuple_kl_false, list_kl_false, tuple_ref_false, int_int_false, int_bl_false, abs_int_false, all_lst_false, any_lst_false, sum_lst_false, max_lst_false, newL_f, newL_t, sv_tup, sv_lst, sv_kl, se_tup, se_lst, se_kl, sz_tup, sz_lst, all_const, beq_self_eq_true, eq_self, decide_true, iD_len, in_iD, in_iDL, filter_tt, map_idd, atI_zero, blsOf_map, intsOf_map, all_map_id, cut_tail, is_int_n, isnot_int_n, is_bl_n, isnot_bl_n, is_str_n, isnot_str_n, is_tup_n, isnot_tup_n, is_lst_n, isnot_lst_n, is_kl_n, isnot_kl_n, is_non_n, isnot_non_n, is_bl_bl, seq_ref0, lst_ref0, own_ref0, truth_ref0, ix_ref0, app_ref0, tuple_ref0, len_ref0, set_ref0, isSome_some, atI_last, ix3_0, ix3_1, ix3_2, at3_1, at3_2, isi_non_int, isi_non_bl, isi_non_str, isi_non_tup, isi_non_lst, isi_non_lst_tup, isi_non_bl_str, isi_bl_int, isi_bl_bl, isi_bl_str, isi_bl_tup, isi_bl_lst, isi_bl_lst_tup, isi_bl_bl_str, isi_int_int, isi_int_bl, isi_int_str, isi_int_tup, isi_int_lst, isi_int_lst_tup, isi_int_bl_str, isi_str_int, isi_str_bl, isi_str_str, isi_str_tup, isi_str_lst, isi_str_lst_tup, isi_str_bl_str, isi_tup_int, isi_tup_bl, isi_tup_str, isi_tup_tup, isi_tup_lst, isi_tup_lst_tup, isi_tup_bl_str, isi_lst_int, isi_lst_bl, isi_lst_str, isi_lst_tup, isi_lst_lst, isi_lst_lst_tup, isi_lst_bl_str, isi_kl_int, isi_kl_bl, isi_kl_str, isi_kl_tup, isi_kl_lst, isi_kl_lst_tup, isi_kl_bl_str, endD_rt, endD_nx, seq_tupD, seq_lstD, mm_int, e, q3]
theorem e_covered {n : Nat} {ks row : List Int} {x y : D} {S : Store} (hx : ksD ks x) (hy : ksD row y) (h : isK ks = true) (h7 : ks.length ≤ 7) (hr : rowOk ks row) : E (n + 5) 19 [x, y] S = .ok (.tup (iD (coverR ks row))) S := by
  refine callP (fd := d19.fd) rfl rfl rfl (by simp only [D.pures, ksD_pure hx, ksD_pure hy]; rfl) (S1 := []) ?_ (by simp only [D.pure]; exact iD_pures _)
  show runB (C (n + 4)) ⟨2, 3, true, b19⟩ _ _ = _
  have q1 : callN (tblOf tbl) (cnOf cis) 1000 (n + 4) 8 [x] [] = .ok (.tup (iD ks)) [] := e_sure hx h
  have q2 : callN (tblOf tbl) (cnOf cis) 1000 (n + 4) 16 [.tup (iD ks), y] [] = .ok (.tup (iD row)) [] := e_sureSet hy hr (by omega)
  have q3 : callN (tblOf tbl) (cnOf cis) 1000 (n + 4) 17 [.tup (iD ks), .tup (iD row)] [] = .ok (.tup (iD (coverR ks row))) [] := e_coveredIn h h7 hr
  simp only [b19, runB, ev_0A, ev_1A, ev_2A, ev_3A, ev_4A, ev_5A, ev_6A, ev_7A, ev_8A, ev_9A, ev_10A, ev_11A, ev_12A, ev_13A, ev_14A, ev_15A, ev_16A, ev_17A, ev_18A, ev_19A, ev_20A, ev_21A, evs_0A, evs_1A, evO_0A, evO_1A, evT_0A, evT_1A, evT_2A, evT_3A, evT_4A, evT_5A, evT_6A, evT_7A, evT_8A, evT_9A, evT_10A, evT_11A, evT_12A, evTs_0A, evTs_1A, evI_0A, evI_1A, evI_2A, evI_3A, evI_4A, evG_0A, evG_1A, evG_2A, evS_0A, evS_1A, evS_2A, evS_3A, evS_4A, evS_5A, evS_6A, evS_7A, evS_8A, evS_9A, evS_10A, bindO_ok, bindO_exn, bindO_bad, Res.bind_ok, Res.bind_exn, Res.bind_bad, Res.bindN_ok, optR_some, K0.d, EC, setN, setNs, wipeR, List.map_cons, List.map_nil, List.set_cons_zero, List.set_cons_succ, List.getElem?_cons_zero, List.getElem?_cons_succ, List.cons_append, List.nil_append, List.length_cons, List.length_nil, Option.map_some, Option.map_none, Nat.reduceAdd, Nat.reduceSub, Nat.reduceLeDiff, if_true, if_false, Bool.false_eq_true, List.replicate, evB_nil, evB_cons, seqO_nx, seqO_rt, seqO_exn, endD_exn, cmp_eq_int, cmp_ne_int, cmp_eq_bl, cmp_ne_bl, Bool.not_true, Bool.not_false, List.filterMap_cons, List.filterMap_nil, truth_bl, truth_int, truth_non, truth_tup, truth_lst, cmp_lt, cmp_le, cmp_gt, cmp_ge, cmp_in, cmp_inL, cmp_notin, ix_tup, ix_lst, ix_kl, add_int_true, sub_int_true, add_tup_true, pow_int_true, mul_tup_true, add_lst_true, sl_tup_true, sl_lst_true, sl_kl_true, len_tup_true, tuple_tup_true, list_tup_true, len_lst_true, tuple_lst_true, list_lst_true, len_kl_true, tuple_kl_true, list_kl_true, tuple_ref_true, int_int_true, int_bl_true, abs_int_true, all_lst_true, any_lst_true, sum_lst_true, max_lst_true, add_int_false, sub_int_false, add_tup_false, pow_int_false, mul_tup_false, add_lst_false, sl_tup_false, sl_lst_false, sl_kl_false, len_tup_false, tuple_tup_false, list_tup_false, len_lst_false, tuple_lst_false, list_lst_false, len_kl_false, tuple_kl_false, list_kl_false, tuple_ref_false, int_int_false, int_bl_false, abs_int_false, all_lst_false, any_lst_false, sum_lst_false, max_lst_false, newL_f, newL_t, sv_tup, sv_lst, sv_kl, se_tup, se_lst, se_kl, sz_tup, sz_lst, all_const, beq_self_eq_true, eq_self, decide_true, iD_len, in_iD, in_iDL, filter_tt, map_idd, atI_zero, blsOf_map, intsOf_map, all_map_id, cut_tail, is_int_n, isnot_int_n, is_bl_n, isnot_bl_n, is_str_n, isnot_str_n, is_tup_n, isnot_tup_n, is_lst_n, isnot_lst_n, is_kl_n, isnot_kl_n, is_non_n, isnot_non_n, is_bl_bl, seq_ref0, lst_ref0, own_ref0, truth_ref0, ix_ref0, app_ref0, tuple_ref0, len_ref0, set_ref0, isSome_some, atI_last, ix3_0, ix3_1, ix3_2, at3_1, at3_2, isi_non_int, isi_non_bl, isi_non_str, isi_non_tup, isi_non_lst, isi_non_lst_tup, isi_non_bl_str, isi_bl_int, isi_bl_bl, isi_bl_str, isi_bl_tup, isi_bl_lst, isi_bl_lst_tup, isi_bl_bl_str, isi_int_int, isi_int_bl, isi_int_str, isi_int_tup, isi_int_lst, isi_int_lst_tup, isi_int_bl_str, isi_str_int, isi_str_bl, isi_str_str, isi_str_tup, isi_str_lst, isi_str_lst_tup, isi_str_bl_str, isi_tup_int, isi_tup_bl, isi_tup_str, isi_tup_tup, isi_tup_lst, isi_tup_lst_tup, isi_tup_bl_str, isi_lst_int, isi_lst_bl, isi_lst_str, isi_lst_tup, isi_lst_lst, isi_lst_lst_tup, isi_lst_bl_str, isi_kl_int, isi_kl_bl, isi_kl_str, isi_kl_tup, isi_kl_lst, isi_kl_lst_tup, isi_kl_bl_str, endD_rt, endD_nx, seq_tupD, seq_lstD, mm_int, q1, q2, q3]
theorem e_heads {n : Nat} {ks row : List Int} {x y : D} {S : Store} (hx : ksD ks x) (hy : ksD row y) (h : isK ks = true) (h7 : ks.length ≤ 7) (hr : rowOk ks row) : E (n + 5) 20 [x, y] S = .ok (.tup (iD (headR ks row))) S := by
  refine callP (fd := d20.fd) rfl rfl rfl (by simp only [D.pures, ksD_pure hx, ksD_pure hy]; rfl) (S1 := []) ?_ (by simp only [D.pure]; exact iD_pures _)
  show runB (C (n + 4)) ⟨2, 3, true, b20⟩ _ _ = _
  have q1 : callN (tblOf tbl) (cnOf cis) 1000 (n + 4) 8 [x] [] = .ok (.tup (iD ks)) [] := e_sure hx h
  have q2 : callN (tblOf tbl) (cnOf cis) 1000 (n + 4) 16 [.tup (iD ks), y] [] = .ok (.tup (iD row)) [] := e_sureSet hy hr (by omega)
  have q3 : callN (tblOf tbl) (cnOf cis) 1000 (n + 4) 18 [.tup (iD ks), .tup (iD row)] [] = .ok (.tup (iD (headR ks row))) [] := e_headsIn (n := n + 1) h h7 hr
  simp only [b20, runB, ev_0A, ev_1A, ev_2A, ev_3A, ev_4A, ev_5A, ev_6A, ev_7A, ev_8A, ev_9A, ev_10A, ev_11A, ev_12A, ev_13A, ev_14A, ev_15A, ev_16A, ev_17A, ev_18A, ev_19A, ev_20A, ev_21A, evs_0A, evs_1A, evO_0A, evO_1A, evT_0A, evT_1A, evT_2A, evT_3A, evT_4A, evT_5A, evT_6A, evT_7A, evT_8A, evT_9A, evT_10A, evT_11A, evT_12A, evTs_0A, evTs_1A, evI_0A, evI_1A, evI_2A, evI_3A, evI_4A, evG_0A, evG_1A, evG_2A, evS_0A, evS_1A, evS_2A, evS_3A, evS_4A, evS_5A, evS_6A, evS_7A, evS_8A, evS_9A, evS_10A, bindO_ok, bindO_exn, bindO_bad, Res.bind_ok, Res.bind_exn, Res.bind_bad, Res.bindN_ok, optR_some, K0.d, EC, setN, setNs, wipeR, List.map_cons, List.map_nil, List.set_cons_zero, List.set_cons_succ, List.getElem?_cons_zero, List.getElem?_cons_succ, List.cons_append, List.nil_append, List.length_cons, List.length_nil, Option.map_some, Option.map_none, Nat.reduceAdd, Nat.reduceSub, Nat.reduceLeDiff, if_true, if_false, Bool.false_eq_true, List.replicate, evB_nil, evB_cons, seqO_nx, seqO_rt, seqO_exn, endD_exn, cmp_eq_int, cmp_ne_int, cmp_eq_bl, cmp_ne_bl, Bool.not_true, Bool.not_false, List.filterMap_cons, List.filterMap_nil, truth_bl, truth_int, truth_non, truth_tup, truth_lst, cmp_lt, cmp_le, cmp_gt, cmp_ge, cmp_in, cmp_inL, cmp_notin, ix_tup, ix_lst, ix_kl, add_int_true, sub_int_true, add_tup_true, pow_int_true, mul_tup_true, add_lst_true, sl_tup_true, sl_lst_true, sl_kl_true, len_tup_true, tuple_tup_true, list_tup_true, len_lst_true, tuple_lst_true, list_lst_true, len_kl_true, tuple_kl_true, list_kl_true, tuple_ref_true, int_int_true, int_bl_true, abs_int_true, all_lst_true, any_lst_true, sum_lst_true, max_lst_true, add_int_false, sub_int_false, add_tup_false, pow_int_false, mul_tup_false, add_lst_false, sl_tup_false, sl_lst_false, sl_kl_false, len_tup_false, tuple_tup_false, list_tup_false, len_lst_false, tuple_lst_false, list_lst_false, len_kl_false, tuple_kl_false, list_kl_false, tuple_ref_false, int_int_false, int_bl_false, abs_int_false, all_lst_false, any_lst_false, sum_lst_false, max_lst_false, newL_f, newL_t, sv_tup, sv_lst, sv_kl, se_tup, se_lst, se_kl, sz_tup, sz_lst, all_const, beq_self_eq_true, eq_self, decide_true, iD_len, in_iD, in_iDL, filter_tt, map_idd, atI_zero, blsOf_map, intsOf_map, all_map_id, cut_tail, is_int_n, isnot_int_n, is_bl_n, isnot_bl_n, is_str_n, isnot_str_n, is_tup_n, isnot_tup_n, is_lst_n, isnot_lst_n, is_kl_n, isnot_kl_n, is_non_n, isnot_non_n, is_bl_bl, seq_ref0, lst_ref0, own_ref0, truth_ref0, ix_ref0, app_ref0, tuple_ref0, len_ref0, set_ref0, isSome_some, atI_last, ix3_0, ix3_1, ix3_2, at3_1, at3_2, isi_non_int, isi_non_bl, isi_non_str, isi_non_tup, isi_non_lst, isi_non_lst_tup, isi_non_bl_str, isi_bl_int, isi_bl_bl, isi_bl_str, isi_bl_tup, isi_bl_lst, isi_bl_lst_tup, isi_bl_bl_str, isi_int_int, isi_int_bl, isi_int_str, isi_int_tup, isi_int_lst, isi_int_lst_tup, isi_int_bl_str, isi_str_int, isi_str_bl, isi_str_str, isi_str_tup, isi_str_lst, isi_str_lst_tup, isi_str_bl_str, isi_tup_int, isi_tup_bl, isi_tup_str, isi_tup_tup, isi_tup_lst, isi_tup_lst_tup, isi_tup_bl_str, isi_lst_int, isi_lst_bl, isi_lst_str, isi_lst_tup, isi_lst_lst, isi_lst_lst_tup, isi_lst_bl_str, isi_kl_int, isi_kl_bl, isi_kl_str, isi_kl_tup, isi_kl_lst, isi_kl_lst_tup, isi_kl_bl_str, endD_rt, endD_nx, seq_tupD, seq_lstD, mm_int, q1, q2, q3]
/-! ### the law's covers and heads -/
theorem pys_iD : ∀ l : List Int, D.pys (iD l) = some (l.map PyData.int)
  | [] => rfl
  | k :: l => by
    show (match (D.int k).py, D.pys (iD l) with
      | some y, some ys => some (y :: ys)
      | _, _ => none) = _
    rw [pys_iD l]
    rfl
theorem eq_nilD {l : List Int} {S : Store} (hs : SeqAt.shaped (.list (l.map PyData.int)) = true) : eqD S (.lst (iD l)) (.lst []) = some l.isEmpty := by
  unfold eqD pyIn
  rw [frz_pure (by simp only [D.pure]; exact iD_pures l), frz_pure rfl]
  show (match (some (D.lst (iD l))).bind D.py, some (PyData.list []) with
    | some p, some q => if (SeqAt.shaped p && SeqAt.shaped q) = true then some (PyData.eqv p q) else none
    | _, _ => none) = _
  have e : (some (D.lst (iD l))).bind D.py = some (.list (l.map PyData.int)) := by
    show (D.pys (iD l)).map PyData.list = _
    rw [pys_iD]
    rfl
  rw [e]
  simp only [hs, Bool.true_and]
  cases l <;> rfl
theorem lay_ints : ∀ l : List Int, PyData.canLayAll0 (l.map PyData.int) = true ∧ PyData.depthAll (l.map PyData.int) = 0
  | [] => ⟨rfl, rfl⟩
  | k :: l => by
    obtain ⟨h1, h2⟩ := lay_ints l
    refine ⟨?_, ?_⟩
    · simp only [List.map_cons, PyData.canLayAll0, PyData.canLay0, h1, Bool.and_self]
    · simp only [List.map_cons, PyData.depthAll, PyData.depth, h2, Nat.max_self]
theorem shaped_ints (l : List Int) : SeqAt.shaped (.list (l.map PyData.int)) = true := by
  obtain ⟨h1, h2⟩ := lay_ints l
  unfold SeqAt.shaped
  simp only [PyData.canLay0, PyData.depth, h1, h2]
  rfl
theorem ne_nil {l : List Int} {S : Store} : cmpD .ne (.lst (iD l)) (.lst []) S = some (!l.isEmpty) := by
  show (eqD S (.lst (iD l)) (.lst [])).map (!·) = _
  rw [eq_nilD (shaped_ints l)]
  rfl
theorem eq_nil {l : List Int} {S : Store} : cmpD .eq (.lst (iD l)) (.lst []) S = some l.isEmpty := eq_nilD (shaped_ints l)
def lcoverR (ks row : List Int) : List Int := ((List.range ks.length).filter fun (j : Nat) => !((line ks (j : Int)).filter fun x => decide (x ∈ row)).isEmpty).map fun (j : Nat) => (j : Int)
theorem inner_ok {n : Nat} {i3 : Nat} {ks row l : List Int} {S : Store} {x2 : Option D} (hl : l.length < 1000) : lcGo (.seq (iD l)) (evG (C n) (.name 3)) (evTs (C n) (.cons (.cmp .in_ (.var 3) (.var 1)) .nil)) (ev (C n) (.var 3)) [some (.tup (iD ks)), some (.tup (iD row)), x2, none] 1000 0 [] S = .ok (iD (l.filter fun x => decide (x ∈ row))) S :=
  lc_pureA l D.int (fun x => decide (x ∈ row)) D.int (fun x => [some (.tup (iD ks)), some (.tup (iD row)), x2, some (.int x)]) (fun i => at_seq i) (fun x hx => ⟨rfl, by
    simp only [runB, ev_0A, ev_1A, ev_2A, ev_3A, ev_4A, ev_5A, ev_6A, ev_7A, ev_8A, ev_9A, ev_10A, ev_11A, ev_12A, ev_13A, ev_14A, ev_15A, ev_16A, ev_17A, ev_18A, ev_19A, ev_20A, ev_21A, evs_0A, evs_1A, evO_0A, evO_1A, evT_0A, evT_1A, evT_2A, evT_3A, evT_4A, evT_5A, evT_6A, evT_7A, evT_8A, evT_9A, evT_10A, evT_11A, evT_12A, evTs_0A, evTs_1A, evI_0A, evI_1A, evI_2A, evI_3A, evI_4A, evG_0A, evG_1A, evG_2A, evS_0A, evS_1A, evS_2A, evS_3A, evS_4A, evS_5A, evS_6A, evS_7A, evS_8A, evS_9A, evS_10A, bindO_ok, bindO_exn, bindO_bad, Res.bind_ok, Res.bind_exn, Res.bind_bad, Res.bindN_ok, optR_some, K0.d, EC, setN, setNs, wipeR, List.map_cons, List.map_nil, List.set_cons_zero, List.set_cons_succ, List.getElem?_cons_zero, List.getElem?_cons_succ, List.cons_append, List.nil_append, List.length_cons, List.length_nil, Option.map_some, Option.map_none, Nat.reduceAdd, Nat.reduceSub, Nat.reduceLeDiff, if_true, if_false, Bool.false_eq_true, List.replicate, evB_nil, evB_cons, seqO_nx, seqO_rt, seqO_exn, endD_exn, cmp_eq_int, cmp_ne_int, cmp_eq_bl, cmp_ne_bl, Bool.not_true, Bool.not_false, List.filterMap_cons, List.filterMap_nil, truth_bl, truth_int, truth_non, truth_tup, truth_lst, cmp_lt, cmp_le, cmp_gt, cmp_ge, cmp_in, cmp_inL, cmp_notin, ix_tup, ix_lst, ix_kl, add_int_true, sub_int_true, add_tup_true, pow_int_true, mul_tup_true, add_lst_true, sl_tup_true, sl_lst_true, sl_kl_true, len_tup_true, tuple_tup_true, list_tup_true, len_lst_true, tuple_lst_true, list_lst_true, len_kl_true, tuple_kl_true, list_kl_true, tuple_ref_true, int_int_true, int_bl_true, abs_int_true, all_lst_true, any_lst_true, sum_lst_true, max_lst_true, add_int_false, sub_int_false, add_tup_false, pow_int_false, mul_tup_false, add_lst_false, sl_tup_false, sl_lst_false, sl_kl_false, len_tup_false, tuple_tup_false, list_tup_false, len_lst_false, tuple_lst_false, list_lst_false, len_kl_false, tuple_kl_false, list_kl_false, tuple_ref_false, int_int_false, int_bl_false, abs_int_false, all_lst_false, any_lst_false, sum_lst_false, max_lst_false, newL_f, newL_t, sv_tup, sv_lst, sv_kl, se_tup, se_lst, se_kl, sz_tup, sz_lst, all_const, beq_self_eq_true, eq_self, decide_true, iD_len, in_iD, in_iDL, filter_tt, map_idd, atI_zero, blsOf_map, intsOf_map, all_map_id, cut_tail, is_int_n, isnot_int_n, is_bl_n, isnot_bl_n, is_str_n, isnot_str_n, is_tup_n, isnot_tup_n, is_lst_n, isnot_lst_n, is_kl_n, isnot_kl_n, is_non_n, isnot_non_n, is_bl_bl, seq_ref0, lst_ref0, own_ref0, truth_ref0, ix_ref0, app_ref0, tuple_ref0, len_ref0, set_ref0, isSome_some, atI_last, ix3_0, ix3_1, ix3_2, at3_1, at3_2, isi_non_int, isi_non_bl, isi_non_str, isi_non_tup, isi_non_lst, isi_non_lst_tup, isi_non_bl_str, isi_bl_int, isi_bl_bl, isi_bl_str, isi_bl_tup, isi_bl_lst, isi_bl_lst_tup, isi_bl_bl_str, isi_int_int, isi_int_bl, isi_int_str, isi_int_tup, isi_int_lst, isi_int_lst_tup, isi_int_bl_str, isi_str_int, isi_str_bl, isi_str_str, isi_str_tup, isi_str_lst, isi_str_lst_tup, isi_str_bl_str, isi_tup_int, isi_tup_bl, isi_tup_str, isi_tup_tup, isi_tup_lst, isi_tup_lst_tup, isi_tup_bl_str, isi_lst_int, isi_lst_bl, isi_lst_str, isi_lst_tup, isi_lst_lst, isi_lst_lst_tup, isi_lst_bl_str, isi_kl_int, isi_kl_bl, isi_kl_str, isi_kl_tup, isi_kl_lst, isi_kl_lst_tup, isi_kl_bl_str, endD_rt, endD_nx, seq_tupD, seq_lstD, mm_int]
    cases decide (x ∈ row) <;> rfl, fun _ => rfl⟩) hl
theorem e_lcover {n : Nat} {ks row : List Int} {S : Store} (h : isK ks = true) : E (n + 2) 30 [.tup (iD ks), .tup (iD row)] S = .ok (.tup (iD (lcoverR ks row))) S := by
  have l8 := isK_len h
  refine callP (fd := d30.fd) rfl rfl rfl (by simp only [D.pures, D.pure, iD_pures, Bool.and_true]) (S1 := []) ?_ (by simp only [D.pure]; exact iD_pures _)
  show runB (C (n + 1)) ⟨2, 4, true, b30⟩ _ _ = _
  simp only [b30, runB, ev_0A, ev_1A, ev_2A, ev_3A, ev_4A, ev_5A, ev_6A, ev_7A, ev_8A, ev_9A, ev_10A, ev_11A, ev_12A, ev_13A, ev_14A, ev_15A, ev_16A, ev_17A, ev_18A, ev_19A, ev_20A, ev_21A, evs_0A, evs_1A, evO_0A, evO_1A, evT_0A, evT_1A, evT_2A, evT_3A, evT_4A, evT_5A, evT_6A, evT_7A, evT_8A, evT_9A, evT_10A, evT_11A, evT_12A, evTs_0A, evTs_1A, evI_0A, evI_1A, evI_2A, evI_3A, evI_4A, evG_0A, evG_1A, evG_2A, evS_0A, evS_1A, evS_2A, evS_3A, evS_4A, evS_5A, evS_6A, evS_7A, evS_8A, evS_9A, evS_10A, bindO_ok, bindO_exn, bindO_bad, Res.bind_ok, Res.bind_exn, Res.bind_bad, Res.bindN_ok, optR_some, K0.d, EC, setN, setNs, wipeR, List.map_cons, List.map_nil, List.set_cons_zero, List.set_cons_succ, List.getElem?_cons_zero, List.getElem?_cons_succ, List.cons_append, List.nil_append, List.length_cons, List.length_nil, Option.map_some, Option.map_none, Nat.reduceAdd, Nat.reduceSub, Nat.reduceLeDiff, if_true, if_false, Bool.false_eq_true, List.replicate, evB_nil, evB_cons, seqO_nx, seqO_rt, seqO_exn, endD_exn, cmp_eq_int, cmp_ne_int, cmp_eq_bl, cmp_ne_bl, Bool.not_true, Bool.not_false, List.filterMap_cons, List.filterMap_nil, truth_bl, truth_int, truth_non, truth_tup, truth_lst, cmp_lt, cmp_le, cmp_gt, cmp_ge, cmp_in, cmp_inL, cmp_notin, ix_tup, ix_lst, ix_kl, add_int_true, sub_int_true, add_tup_true, pow_int_true, mul_tup_true, add_lst_true, sl_tup_true, sl_lst_true, sl_kl_true, len_tup_true, tuple_tup_true, list_tup_true, len_lst_true, tuple_lst_true, list_lst_true, len_kl_true, tuple_kl_true, list_kl_true, tuple_ref_true, int_int_true, int_bl_true, abs_int_true, all_lst_true, any_lst_true, sum_lst_true, max_lst_true, add_int_false, sub_int_false, add_tup_false, pow_int_false, mul_tup_false, add_lst_false, sl_tup_false, sl_lst_false, sl_kl_false, len_tup_false, tuple_tup_false, list_tup_false, len_lst_false, tuple_lst_false, list_lst_false, len_kl_false, tuple_kl_false, list_kl_false, tuple_ref_false, int_int_false, int_bl_false, abs_int_false, all_lst_false, any_lst_false, sum_lst_false, max_lst_false, newL_f, newL_t, sv_tup, sv_lst, sv_kl, se_tup, se_lst, se_kl, sz_tup, sz_lst, all_const, beq_self_eq_true, eq_self, decide_true, iD_len, in_iD, in_iDL, filter_tt, map_idd, atI_zero, blsOf_map, intsOf_map, all_map_id, cut_tail, is_int_n, isnot_int_n, is_bl_n, isnot_bl_n, is_str_n, isnot_str_n, is_tup_n, isnot_tup_n, is_lst_n, isnot_lst_n, is_kl_n, isnot_kl_n, is_non_n, isnot_non_n, is_bl_bl, seq_ref0, lst_ref0, own_ref0, truth_ref0, ix_ref0, app_ref0, tuple_ref0, len_ref0, set_ref0, isSome_some, atI_last, ix3_0, ix3_1, ix3_2, at3_1, at3_2, isi_non_int, isi_non_bl, isi_non_str, isi_non_tup, isi_non_lst, isi_non_lst_tup, isi_non_bl_str, isi_bl_int, isi_bl_bl, isi_bl_str, isi_bl_tup, isi_bl_lst, isi_bl_lst_tup, isi_bl_bl_str, isi_int_int, isi_int_bl, isi_int_str, isi_int_tup, isi_int_lst, isi_int_lst_tup, isi_int_bl_str, isi_str_int, isi_str_bl, isi_str_str, isi_str_tup, isi_str_lst, isi_str_lst_tup, isi_str_bl_str, isi_tup_int, isi_tup_bl, isi_tup_str, isi_tup_tup, isi_tup_lst, isi_tup_lst_tup, isi_tup_bl_str, isi_lst_int, isi_lst_bl, isi_lst_str, isi_lst_tup, isi_lst_lst, isi_lst_lst_tup, isi_lst_bl_str, isi_kl_int, isi_kl_bl, isi_kl_str, isi_kl_tup, isi_kl_lst, isi_kl_lst_tup, isi_kl_bl_str, endD_rt, endD_nx, seq_tupD, seq_lstD, mm_int, sr_nat (m := ks.length) (by omega)]
  rw [lc_pureA (List.range ks.length) (fun j => .int (j : Nat)) (fun (j : Nat) => !((line ks (j : Int)).filter fun x => decide (x ∈ row)).isEmpty) (fun j => .int (j : Nat)) (fun j => [some (.tup (iD ks)), some (.tup (iD row)), some (.int (j : Nat)), none]) (fun i => at_rng i) (fun j hj => ⟨rfl, by
    have q : callN (tblOf tbl) (cnOf cis) 1000 (n + 1) 28 [.tup (iD ks), .int (j : Nat)] [] = .ok (.lst (iD (line ks j))) [] := e_lline (n := n) h (by omega) (by have := List.mem_range.mp hj; omega)
    have q2 := inner_ok (n := n + 1) (i3 := 3) (ks := ks) (row := row) (l := line ks j) (S := []) (x2 := some (.int (j : Nat))) (Nat.lt_of_le_of_lt line_le (by omega))
    simp only [runB, ev_0A, ev_1A, ev_2A, ev_3A, ev_4A, ev_5A, ev_6A, ev_7A, ev_8A, ev_9A, ev_10A, ev_11A, ev_12A, ev_13A, ev_14A, ev_15A, ev_16A, ev_17A, ev_18A, ev_19A, ev_20A, ev_21A, evs_0A, evs_1A, evO_0A, evO_1A, evT_0A, evT_1A, evT_2A, evT_3A, evT_4A, evT_5A, evT_6A, evT_7A, evT_8A, evT_9A, evT_10A, evT_11A, evT_12A, evTs_0A, evTs_1A, evI_0A, evI_1A, evI_2A, evI_3A, evI_4A, evG_0A, evG_1A, evG_2A, evS_0A, evS_1A, evS_2A, evS_3A, evS_4A, evS_5A, evS_6A, evS_7A, evS_8A, evS_9A, evS_10A, bindO_ok, bindO_exn, bindO_bad, Res.bind_ok, Res.bind_exn, Res.bind_bad, Res.bindN_ok, optR_some, K0.d, EC, setN, setNs, wipeR, List.map_cons, List.map_nil, List.set_cons_zero, List.set_cons_succ, List.getElem?_cons_zero, List.getElem?_cons_succ, List.cons_append, List.nil_append, List.length_cons, List.length_nil, Option.map_some, Option.map_none, Nat.reduceAdd, Nat.reduceSub, Nat.reduceLeDiff, if_true, if_false, Bool.false_eq_true, List.replicate, evB_nil, evB_cons, seqO_nx, seqO_rt, seqO_exn, endD_exn, cmp_eq_int, cmp_ne_int, cmp_eq_bl, cmp_ne_bl, Bool.not_true, Bool.not_false, List.filterMap_cons, List.filterMap_nil, truth_bl, truth_int, truth_non, truth_tup, truth_lst, cmp_lt, cmp_le, cmp_gt, cmp_ge, cmp_in, cmp_inL, cmp_notin, ix_tup, ix_lst, ix_kl, add_int_true, sub_int_true, add_tup_true, pow_int_true, mul_tup_true, add_lst_true, sl_tup_true, sl_lst_true, sl_kl_true, len_tup_true, tuple_tup_true, list_tup_true, len_lst_true, tuple_lst_true, list_lst_true, len_kl_true, tuple_kl_true, list_kl_true, tuple_ref_true, int_int_true, int_bl_true, abs_int_true, all_lst_true, any_lst_true, sum_lst_true, max_lst_true, add_int_false, sub_int_false, add_tup_false, pow_int_false, mul_tup_false, add_lst_false, sl_tup_false, sl_lst_false, sl_kl_false, len_tup_false, tuple_tup_false, list_tup_false, len_lst_false, tuple_lst_false, list_lst_false, len_kl_false, tuple_kl_false, list_kl_false, tuple_ref_false, int_int_false, int_bl_false, abs_int_false, all_lst_false, any_lst_false, sum_lst_false, max_lst_false, newL_f, newL_t, sv_tup, sv_lst, sv_kl, se_tup, se_lst, se_kl, sz_tup, sz_lst, all_const, beq_self_eq_true, eq_self, decide_true, iD_len, in_iD, in_iDL, filter_tt, map_idd, atI_zero, blsOf_map, intsOf_map, all_map_id, cut_tail, is_int_n, isnot_int_n, is_bl_n, isnot_bl_n, is_str_n, isnot_str_n, is_tup_n, isnot_tup_n, is_lst_n, isnot_lst_n, is_kl_n, isnot_kl_n, is_non_n, isnot_non_n, is_bl_bl, seq_ref0, lst_ref0, own_ref0, truth_ref0, ix_ref0, app_ref0, tuple_ref0, len_ref0, set_ref0, isSome_some, atI_last, ix3_0, ix3_1, ix3_2, at3_1, at3_2, isi_non_int, isi_non_bl, isi_non_str, isi_non_tup, isi_non_lst, isi_non_lst_tup, isi_non_bl_str, isi_bl_int, isi_bl_bl, isi_bl_str, isi_bl_tup, isi_bl_lst, isi_bl_lst_tup, isi_bl_bl_str, isi_int_int, isi_int_bl, isi_int_str, isi_int_tup, isi_int_lst, isi_int_lst_tup, isi_int_bl_str, isi_str_int, isi_str_bl, isi_str_str, isi_str_tup, isi_str_lst, isi_str_lst_tup, isi_str_bl_str, isi_tup_int, isi_tup_bl, isi_tup_str, isi_tup_tup, isi_tup_lst, isi_tup_lst_tup, isi_tup_bl_str, isi_lst_int, isi_lst_bl, isi_lst_str, isi_lst_tup, isi_lst_lst, isi_lst_lst_tup, isi_lst_bl_str, isi_kl_int, isi_kl_bl, isi_kl_str, isi_kl_tup, isi_kl_lst, isi_kl_lst_tup, isi_kl_bl_str, endD_rt, endD_nx, seq_tupD, seq_lstD, mm_int, q, q2, ne_nil]
    cases ((line ks (j : Int)).filter fun x => decide (x ∈ row)).isEmpty <;> rfl, fun _ => rfl⟩) (by rw [List.length_range]; omega)]
  simp only [runB, ev_0A, ev_1A, ev_2A, ev_3A, ev_4A, ev_5A, ev_6A, ev_7A, ev_8A, ev_9A, ev_10A, ev_11A, ev_12A, ev_13A, ev_14A, ev_15A, ev_16A, ev_17A, ev_18A, ev_19A, ev_20A, ev_21A, evs_0A, evs_1A, evO_0A, evO_1A, evT_0A, evT_1A, evT_2A, evT_3A, evT_4A, evT_5A, evT_6A, evT_7A, evT_8A, evT_9A, evT_10A, evT_11A, evT_12A, evTs_0A, evTs_1A, evI_0A, evI_1A, evI_2A, evI_3A, evI_4A, evG_0A, evG_1A, evG_2A, evS_0A, evS_1A, evS_2A, evS_3A, evS_4A, evS_5A, evS_6A, evS_7A, evS_8A, evS_9A, evS_10A, bindO_ok, bindO_exn, bindO_bad, Res.bind_ok, Res.bind_exn, Res.bind_bad, Res.bindN_ok, optR_some, K0.d, EC, setN, setNs, wipeR, List.map_cons, List.map_nil, List.set_cons_zero, List.set_cons_succ, List.getElem?_cons_zero, List.getElem?_cons_succ, List.cons_append, List.nil_append, List.length_cons, List.length_nil, Option.map_some, Option.map_none, Nat.reduceAdd, Nat.reduceSub, Nat.reduceLeDiff, if_true, if_false, Bool.false_eq_true, List.replicate, evB_nil, evB_cons, seqO_nx, seqO_rt, seqO_exn, endD_exn, cmp_eq_int, cmp_ne_int, cmp_eq_bl, cmp_ne_bl, Bool.not_true, Bool.not_false, List.filterMap_cons, List.filterMap_nil, truth_bl, truth_int, truth_non, truth_tup, truth_lst, cmp_lt, cmp_le, cmp_gt, cmp_ge, cmp_in, cmp_inL, cmp_notin, ix_tup, ix_lst, ix_kl, add_int_true, sub_int_true, add_tup_true, pow_int_true, mul_tup_true, add_lst_true, sl_tup_true, sl_lst_true, sl_kl_true, len_tup_true, tuple_tup_true, list_tup_true, len_lst_true, tuple_lst_true, list_lst_true, len_kl_true, tuple_kl_true, list_kl_true, tuple_ref_true, int_int_true, int_bl_true, abs_int_true, all_lst_true, any_lst_true, sum_lst_true, max_lst_true, add_int_false, sub_int_false, add_tup_false, pow_int_false, mul_tup_false, add_lst_false, sl_tup_false, sl_lst_false, sl_kl_false, len_tup_false, tuple_tup_false, list_tup_false, len_lst_false, tuple_lst_false, list_lst_false, len_kl_false, tuple_kl_false, list_kl_false, tuple_ref_false, int_int_false, int_bl_false, abs_int_false, all_lst_false, any_lst_false, sum_lst_false, max_lst_false, newL_f, newL_t, sv_tup, sv_lst, sv_kl, se_tup, se_lst, se_kl, sz_tup, sz_lst, all_const, beq_self_eq_true, eq_self, decide_true, iD_len, in_iD, in_iDL, filter_tt, map_idd, atI_zero, blsOf_map, intsOf_map, all_map_id, cut_tail, is_int_n, isnot_int_n, is_bl_n, isnot_bl_n, is_str_n, isnot_str_n, is_tup_n, isnot_tup_n, is_lst_n, isnot_lst_n, is_kl_n, isnot_kl_n, is_non_n, isnot_non_n, is_bl_bl, seq_ref0, lst_ref0, own_ref0, truth_ref0, ix_ref0, app_ref0, tuple_ref0, len_ref0, set_ref0, isSome_some, atI_last, ix3_0, ix3_1, ix3_2, at3_1, at3_2, isi_non_int, isi_non_bl, isi_non_str, isi_non_tup, isi_non_lst, isi_non_lst_tup, isi_non_bl_str, isi_bl_int, isi_bl_bl, isi_bl_str, isi_bl_tup, isi_bl_lst, isi_bl_lst_tup, isi_bl_bl_str, isi_int_int, isi_int_bl, isi_int_str, isi_int_tup, isi_int_lst, isi_int_lst_tup, isi_int_bl_str, isi_str_int, isi_str_bl, isi_str_str, isi_str_tup, isi_str_lst, isi_str_lst_tup, isi_str_bl_str, isi_tup_int, isi_tup_bl, isi_tup_str, isi_tup_tup, isi_tup_lst, isi_tup_lst_tup, isi_tup_bl_str, isi_lst_int, isi_lst_bl, isi_lst_str, isi_lst_tup, isi_lst_lst, isi_lst_lst_tup, isi_lst_bl_str, isi_kl_int, isi_kl_bl, isi_kl_str, isi_kl_tup, isi_kl_lst, isi_kl_lst_tup, isi_kl_bl_str, endD_rt, endD_nx, seq_tupD, seq_lstD, mm_int, iD_map]
  rfl
def lheadR (ks row : List Int) : List Int := sset (row.filter fun k => ((line ks k).tail.filter fun x => decide (x ∈ row)).isEmpty)
theorem e_lheads {n : Nat} {ks row : List Int} {S : Store} (h : isK ks = true) (h7 : ks.length ≤ 7) (hr : rowOk ks row) : E (n + 2) 31 [.tup (iD ks), .tup (iD row)] S = .ok (.tup (iD (lheadR ks row))) S := by
  have l8 := isK_len h
  have rl := row_len hr
  refine callP (fd := d31.fd) rfl rfl rfl (by simp only [D.pures, D.pure, iD_pures, Bool.and_true]) (S1 := []) ?_ (by simp only [D.pure]; exact iD_pures _)
  show runB (C (n + 1)) ⟨2, 4, true, b31⟩ _ _ = _
  simp only [b31, runB, ev_0A, ev_1A, ev_2A, ev_3A, ev_4A, ev_5A, ev_6A, ev_7A, ev_8A, ev_9A, ev_10A, ev_11A, ev_12A, ev_13A, ev_14A, ev_15A, ev_16A, ev_17A, ev_18A, ev_19A, ev_20A, ev_21A, evs_0A, evs_1A, evO_0A, evO_1A, evT_0A, evT_1A, evT_2A, evT_3A, evT_4A, evT_5A, evT_6A, evT_7A, evT_8A, evT_9A, evT_10A, evT_11A, evT_12A, evTs_0A, evTs_1A, evI_0A, evI_1A, evI_2A, evI_3A, evI_4A, evG_0A, evG_1A, evG_2A, evS_0A, evS_1A, evS_2A, evS_3A, evS_4A, evS_5A, evS_6A, evS_7A, evS_8A, evS_9A, evS_10A, bindO_ok, bindO_exn, bindO_bad, Res.bind_ok, Res.bind_exn, Res.bind_bad, Res.bindN_ok, optR_some, K0.d, EC, setN, setNs, wipeR, List.map_cons, List.map_nil, List.set_cons_zero, List.set_cons_succ, List.getElem?_cons_zero, List.getElem?_cons_succ, List.cons_append, List.nil_append, List.length_cons, List.length_nil, Option.map_some, Option.map_none, Nat.reduceAdd, Nat.reduceSub, Nat.reduceLeDiff, if_true, if_false, Bool.false_eq_true, List.replicate, evB_nil, evB_cons, seqO_nx, seqO_rt, seqO_exn, endD_exn, cmp_eq_int, cmp_ne_int, cmp_eq_bl, cmp_ne_bl, Bool.not_true, Bool.not_false, List.filterMap_cons, List.filterMap_nil, truth_bl, truth_int, truth_non, truth_tup, truth_lst, cmp_lt, cmp_le, cmp_gt, cmp_ge, cmp_in, cmp_inL, cmp_notin, ix_tup, ix_lst, ix_kl, add_int_true, sub_int_true, add_tup_true, pow_int_true, mul_tup_true, add_lst_true, sl_tup_true, sl_lst_true, sl_kl_true, len_tup_true, tuple_tup_true, list_tup_true, len_lst_true, tuple_lst_true, list_lst_true, len_kl_true, tuple_kl_true, list_kl_true, tuple_ref_true, int_int_true, int_bl_true, abs_int_true, all_lst_true, any_lst_true, sum_lst_true, max_lst_true, add_int_false, sub_int_false, add_tup_false, pow_int_false, mul_tup_false, add_lst_false, sl_tup_false, sl_lst_false, sl_kl_false, len_tup_false, tuple_tup_false, list_tup_false, len_lst_false, tuple_lst_false, list_lst_false, len_kl_false, tuple_kl_false, list_kl_false, tuple_ref_false, int_int_false, int_bl_false, abs_int_false, all_lst_false, any_lst_false, sum_lst_false, max_lst_false, newL_f, newL_t, sv_tup, sv_lst, sv_kl, se_tup, se_lst, se_kl, sz_tup, sz_lst, all_const, beq_self_eq_true, eq_self, decide_true, iD_len, in_iD, in_iDL, filter_tt, map_idd, atI_zero, blsOf_map, intsOf_map, all_map_id, cut_tail, is_int_n, isnot_int_n, is_bl_n, isnot_bl_n, is_str_n, isnot_str_n, is_tup_n, isnot_tup_n, is_lst_n, isnot_lst_n, is_kl_n, isnot_kl_n, is_non_n, isnot_non_n, is_bl_bl, seq_ref0, lst_ref0, own_ref0, truth_ref0, ix_ref0, app_ref0, tuple_ref0, len_ref0, set_ref0, isSome_some, atI_last, ix3_0, ix3_1, ix3_2, at3_1, at3_2, isi_non_int, isi_non_bl, isi_non_str, isi_non_tup, isi_non_lst, isi_non_lst_tup, isi_non_bl_str, isi_bl_int, isi_bl_bl, isi_bl_str, isi_bl_tup, isi_bl_lst, isi_bl_lst_tup, isi_bl_bl_str, isi_int_int, isi_int_bl, isi_int_str, isi_int_tup, isi_int_lst, isi_int_lst_tup, isi_int_bl_str, isi_str_int, isi_str_bl, isi_str_str, isi_str_tup, isi_str_lst, isi_str_lst_tup, isi_str_bl_str, isi_tup_int, isi_tup_bl, isi_tup_str, isi_tup_tup, isi_tup_lst, isi_tup_lst_tup, isi_tup_bl_str, isi_lst_int, isi_lst_bl, isi_lst_str, isi_lst_tup, isi_lst_lst, isi_lst_lst_tup, isi_lst_bl_str, isi_kl_int, isi_kl_bl, isi_kl_str, isi_kl_tup, isi_kl_lst, isi_kl_lst_tup, isi_kl_bl_str, endD_rt, endD_nx, seq_tupD, seq_lstD, mm_int]
  rw [lc_pureA row D.int (fun k => ((line ks k).tail.filter fun x => decide (x ∈ row)).isEmpty) D.int (fun k => [some (.tup (iD ks)), some (.tup (iD row)), some (.int k), none]) (fun i => at_seq i) (fun k hk => ⟨rfl, by
    have hk := hr.2 k hk
    have q : callN (tblOf tbl) (cnOf cis) 1000 (n + 1) 28 [.tup (iD ks), .int k] [] = .ok (.lst (iD (line ks k))) [] := e_lline (n := n) h hk.1 hk.2
    have q2 := inner_ok (n := n + 1) (i3 := 3) (ks := ks) (row := row) (l := (line ks k).tail) (S := []) (x2 := some (.int k)) (by have := line_le (ks := ks) (k := k); rw [List.length_tail]; omega)
    simp only [runB, ev_0A, ev_1A, ev_2A, ev_3A, ev_4A, ev_5A, ev_6A, ev_7A, ev_8A, ev_9A, ev_10A, ev_11A, ev_12A, ev_13A, ev_14A, ev_15A, ev_16A, ev_17A, ev_18A, ev_19A, ev_20A, ev_21A, evs_0A, evs_1A, evO_0A, evO_1A, evT_0A, evT_1A, evT_2A, evT_3A, evT_4A, evT_5A, evT_6A, evT_7A, evT_8A, evT_9A, evT_10A, evT_11A, evT_12A, evTs_0A, evTs_1A, evI_0A, evI_1A, evI_2A, evI_3A, evI_4A, evG_0A, evG_1A, evG_2A, evS_0A, evS_1A, evS_2A, evS_3A, evS_4A, evS_5A, evS_6A, evS_7A, evS_8A, evS_9A, evS_10A, bindO_ok, bindO_exn, bindO_bad, Res.bind_ok, Res.bind_exn, Res.bind_bad, Res.bindN_ok, optR_some, K0.d, EC, setN, setNs, wipeR, List.map_cons, List.map_nil, List.set_cons_zero, List.set_cons_succ, List.getElem?_cons_zero, List.getElem?_cons_succ, List.cons_append, List.nil_append, List.length_cons, List.length_nil, Option.map_some, Option.map_none, Nat.reduceAdd, Nat.reduceSub, Nat.reduceLeDiff, if_true, if_false, Bool.false_eq_true, List.replicate, evB_nil, evB_cons, seqO_nx, seqO_rt, seqO_exn, endD_exn, cmp_eq_int, cmp_ne_int, cmp_eq_bl, cmp_ne_bl, Bool.not_true, Bool.not_false, List.filterMap_cons, List.filterMap_nil, truth_bl, truth_int, truth_non, truth_tup, truth_lst, cmp_lt, cmp_le, cmp_gt, cmp_ge, cmp_in, cmp_inL, cmp_notin, ix_tup, ix_lst, ix_kl, add_int_true, sub_int_true, add_tup_true, pow_int_true, mul_tup_true, add_lst_true, sl_tup_true, sl_lst_true, sl_kl_true, len_tup_true, tuple_tup_true, list_tup_true, len_lst_true, tuple_lst_true, list_lst_true, len_kl_true, tuple_kl_true, list_kl_true, tuple_ref_true, int_int_true, int_bl_true, abs_int_true, all_lst_true, any_lst_true, sum_lst_true, max_lst_true, add_int_false, sub_int_false, add_tup_false, pow_int_false, mul_tup_false, add_lst_false, sl_tup_false, sl_lst_false, sl_kl_false, len_tup_false, tuple_tup_false, list_tup_false, len_lst_false, tuple_lst_false, list_lst_false, len_kl_false, tuple_kl_false, list_kl_false, tuple_ref_false, int_int_false, int_bl_false, abs_int_false, all_lst_false, any_lst_false, sum_lst_false, max_lst_false, newL_f, newL_t, sv_tup, sv_lst, sv_kl, se_tup, se_lst, se_kl, sz_tup, sz_lst, all_const, beq_self_eq_true, eq_self, decide_true, iD_len, in_iD, in_iDL, filter_tt, map_idd, atI_zero, blsOf_map, intsOf_map, all_map_id, cut_tail, is_int_n, isnot_int_n, is_bl_n, isnot_bl_n, is_str_n, isnot_str_n, is_tup_n, isnot_tup_n, is_lst_n, isnot_lst_n, is_kl_n, isnot_kl_n, is_non_n, isnot_non_n, is_bl_bl, seq_ref0, lst_ref0, own_ref0, truth_ref0, ix_ref0, app_ref0, tuple_ref0, len_ref0, set_ref0, isSome_some, atI_last, ix3_0, ix3_1, ix3_2, at3_1, at3_2, isi_non_int, isi_non_bl, isi_non_str, isi_non_tup, isi_non_lst, isi_non_lst_tup, isi_non_bl_str, isi_bl_int, isi_bl_bl, isi_bl_str, isi_bl_tup, isi_bl_lst, isi_bl_lst_tup, isi_bl_bl_str, isi_int_int, isi_int_bl, isi_int_str, isi_int_tup, isi_int_lst, isi_int_lst_tup, isi_int_bl_str, isi_str_int, isi_str_bl, isi_str_str, isi_str_tup, isi_str_lst, isi_str_lst_tup, isi_str_bl_str, isi_tup_int, isi_tup_bl, isi_tup_str, isi_tup_tup, isi_tup_lst, isi_tup_lst_tup, isi_tup_bl_str, isi_lst_int, isi_lst_bl, isi_lst_str, isi_lst_tup, isi_lst_lst, isi_lst_lst_tup, isi_lst_bl_str, isi_kl_int, isi_kl_bl, isi_kl_str, isi_kl_tup, isi_kl_lst, isi_kl_lst_tup, isi_kl_bl_str, endD_rt, endD_nx, seq_tupD, seq_lstD, mm_int, q, cut_tailI, q2, eq_nil]
    cases ((line ks k).tail.filter fun x => decide (x ∈ row)).isEmpty <;> rfl, fun _ => rfl⟩) (by omega)]
  have q3 : callN (tblOf tbl) (cnOf cis) 1000 (n + 1) 29 [.lst (iD (row.filter fun k => ((line ks k).tail.filter fun x => decide (x ∈ row)).isEmpty))] [] = .ok (.tup (iD (lheadR ks row))) [] := e_lset (n := n) rfl (by
    have := List.length_filter_le (fun k => ((line ks k).tail.filter fun x => decide (x ∈ row)).isEmpty) row
    omega)
  have ei : ((row.filter fun k => ((line ks k).tail.filter fun x => decide (x ∈ row)).isEmpty).map D.int) = iD (row.filter fun k => ((line ks k).tail.filter fun x => decide (x ∈ row)).isEmpty) := rfl
  rw [ei]
  simp only [runB, ev_0A, ev_1A, ev_2A, ev_3A, ev_4A, ev_5A, ev_6A, ev_7A, ev_8A, ev_9A, ev_10A, ev_11A, ev_12A, ev_13A, ev_14A, ev_15A, ev_16A, ev_17A, ev_18A, ev_19A, ev_20A, ev_21A, evs_0A, evs_1A, evO_0A, evO_1A, evT_0A, evT_1A, evT_2A, evT_3A, evT_4A, evT_5A, evT_6A, evT_7A, evT_8A, evT_9A, evT_10A, evT_11A, evT_12A, evTs_0A, evTs_1A, evI_0A, evI_1A, evI_2A, evI_3A, evI_4A, evG_0A, evG_1A, evG_2A, evS_0A, evS_1A, evS_2A, evS_3A, evS_4A, evS_5A, evS_6A, evS_7A, evS_8A, evS_9A, evS_10A, bindO_ok, bindO_exn, bindO_bad, Res.bind_ok, Res.bind_exn, Res.bind_bad, Res.bindN_ok, optR_some, K0.d, EC, setN, setNs, wipeR, List.map_cons, List.map_nil, List.set_cons_zero, List.set_cons_succ, List.getElem?_cons_zero, List.getElem?_cons_succ, List.cons_append, List.nil_append, List.length_cons, List.length_nil, Option.map_some, Option.map_none, Nat.reduceAdd, Nat.reduceSub, Nat.reduceLeDiff, if_true, if_false, Bool.false_eq_true, List.replicate, evB_nil, evB_cons, seqO_nx, seqO_rt, seqO_exn, endD_exn, cmp_eq_int, cmp_ne_int, cmp_eq_bl, cmp_ne_bl, Bool.not_true, Bool.not_false, List.filterMap_cons, List.filterMap_nil, truth_bl, truth_int, truth_non, truth_tup, truth_lst, cmp_lt, cmp_le, cmp_gt, cmp_ge, cmp_in, cmp_inL, cmp_notin, ix_tup, ix_lst, ix_kl, add_int_true, sub_int_true, add_tup_true, pow_int_true, mul_tup_true, add_lst_true, sl_tup_true, sl_lst_true, sl_kl_true, len_tup_true, tuple_tup_true, list_tup_true, len_lst_true, tuple_lst_true, list_lst_true, len_kl_true, tuple_kl_true, list_kl_true, tuple_ref_true, int_int_true, int_bl_true, abs_int_true, all_lst_true, any_lst_true, sum_lst_true, max_lst_true, add_int_false, sub_int_false, add_tup_false, pow_int_false, mul_tup_false, add_lst_false, sl_tup_false, sl_lst_false, sl_kl_false, len_tup_false, tuple_tup_false, list_tup_false, len_lst_false, tuple_lst_false, list_lst_false, len_kl_false, tuple_kl_false, list_kl_false, tuple_ref_false, int_int_false, int_bl_false, abs_int_false, all_lst_false, any_lst_false, sum_lst_false, max_lst_false, newL_f, newL_t, sv_tup, sv_lst, sv_kl, se_tup, se_lst, se_kl, sz_tup, sz_lst, all_const, beq_self_eq_true, eq_self, decide_true, iD_len, in_iD, in_iDL, filter_tt, map_idd, atI_zero, blsOf_map, intsOf_map, all_map_id, cut_tail, is_int_n, isnot_int_n, is_bl_n, isnot_bl_n, is_str_n, isnot_str_n, is_tup_n, isnot_tup_n, is_lst_n, isnot_lst_n, is_kl_n, isnot_kl_n, is_non_n, isnot_non_n, is_bl_bl, seq_ref0, lst_ref0, own_ref0, truth_ref0, ix_ref0, app_ref0, tuple_ref0, len_ref0, set_ref0, isSome_some, atI_last, ix3_0, ix3_1, ix3_2, at3_1, at3_2, isi_non_int, isi_non_bl, isi_non_str, isi_non_tup, isi_non_lst, isi_non_lst_tup, isi_non_bl_str, isi_bl_int, isi_bl_bl, isi_bl_str, isi_bl_tup, isi_bl_lst, isi_bl_lst_tup, isi_bl_bl_str, isi_int_int, isi_int_bl, isi_int_str, isi_int_tup, isi_int_lst, isi_int_lst_tup, isi_int_bl_str, isi_str_int, isi_str_bl, isi_str_str, isi_str_tup, isi_str_lst, isi_str_lst_tup, isi_str_bl_str, isi_tup_int, isi_tup_bl, isi_tup_str, isi_tup_tup, isi_tup_lst, isi_tup_lst_tup, isi_tup_bl_str, isi_lst_int, isi_lst_bl, isi_lst_str, isi_lst_tup, isi_lst_lst, isi_lst_lst_tup, isi_lst_bl_str, isi_kl_int, isi_kl_bl, isi_kl_str, isi_kl_tup, isi_kl_lst, isi_kl_lst_tup, isi_kl_bl_str, endD_rt, endD_nx, seq_tupD, seq_lstD, mm_int, q3]
end K40
namespace K40
open PySem DL
/-! ### two lists at the store's end -/
section
variable {x p f q : SO} {R : Store} {xs ys : List D} {d : D}
theorem two_p : (x :: (R ++ [p, f]))[R.length + 1]? = some p := by
  rw [List.getElem?_cons_succ, List.getElem?_append_right (Nat.le_refl _), Nat.sub_self]
  rfl
theorem two_f : (x :: (R ++ [p, f]))[R.length + 2]? = some f := by
  rw [List.getElem?_cons_succ, List.getElem?_append_right (by omega)]
  have : R.length + 1 - R.length = 1 := by omega
  rw [this]
  rfl
theorem two_sp : (x :: (R ++ [p, f])).set (R.length + 1) q = x :: (R ++ [q, f]) := by
  rw [List.set_cons_succ, List.set_append_right _ _ (Nat.le_refl _), Nat.sub_self]
  rfl
theorem two_sf : (x :: (R ++ [p, f])).set (R.length + 2) q = x :: (R ++ [p, q]) := by
  rw [List.set_cons_succ, List.set_append_right _ _ (by omega)]
  have : R.length + 1 - R.length = 1 := by omega
  rw [this]
  rfl
theorem two_own : (ownOf (x :: (R ++ [.lst xs, f])) (.ref (R.length + 1))).isSome = true := by
  unfold ownOf
  simp only [two_p]
  rfl
theorem two_own2 : (ownOf (x :: (R ++ [p, .lst xs])) (.ref (R.length + 2))).isSome = true := by
  unfold ownOf
  simp only [two_f]
  rfl
theorem two_len {m : Bool} : biD m .len (.ref (R.length + 1)) (x :: (R ++ [.lst xs, f])) = .ok (.int xs.length) (x :: (R ++ [.lst xs, f])) := by
  show (match seqOf (x :: (R ++ [.lst xs, f])) (.ref (R.length + 1)) with
    | some ys => Res.ok (D.int ys.length) (x :: (R ++ [SO.lst xs, f]))
    | none => .bad) = _
  unfold seqOf
  simp only [two_p]
theorem two_pop {i : Int} {j : Nat} {y : D} (h0 : i.natAbs ≤ 1000000000) (h1 : L2.ixN xs.length i = some j) (h2 : xs[j]? = some y) : methD true (.ref (R.length + 1)) .pop [.int i] (x :: (R ++ [.lst xs, f])) = .ok y (x :: (R ++ [.lst (xs.eraseIdx j), f])) := by
  unfold methD
  simp only [two_p, if_pos h0, h1, h2, two_sp]
theorem two_app (h : xs.length < 16777216) : methD true (.ref (R.length + 2)) .append [d] (x :: (R ++ [p, .lst xs])) = .ok .non (x :: (R ++ [p, .lst (xs ++ [d])])) := by
  unfold methD
  simp only [two_f, if_pos h, two_sf]
theorem two_seq : seqOf (x :: (R ++ [p, .lst xs])) (.ref (R.length + 2)) = some xs := by
  unfold seqOf
  simp only [two_f]
end
theorem iD_erase : ∀ {l : List Int} {j : Nat}, (iD l).eraseIdx j = iD (l.eraseIdx j)
  | [], _ => rfl
  | _ :: _, 0 => rfl
  | x :: l, j + 1 => by
    show D.int x :: (iD l).eraseIdx j = D.int x :: iD (l.eraseIdx j)
    rw [iD_erase]
theorem e_pick {n : Nat} {a b c cnt : Int} {g : List Int} {R : Store} (a0 : 0 ≤ a) (b0 : 0 ≤ b) (c0 : 0 ≤ c) (c1 : c < 900000000) (g1 : g.length ≤ 100) (n0 : 0 ≤ cnt) (n1 : cnt < 1000) :
    ∃ (f : List Int) (k : Nat) (a' c' : Int) (R' : Store), E (n + 2) 24 [.ref 0, .lst (iD g), .int cnt] (boxD a b c :: R) = .ok (.ref k) (boxD a' b c' :: R') ∧ seqOf (boxD a' b c' :: R') (.ref k) = some (iD f) ∧ (∀ x ∈ f, x ∈ g) ∧ f.length ≤ g.length ∧ 0 ≤ a' ∧ 0 ≤ c' ∧ c' ≤ c + g.length := by
  have hE : E (n + 2) 24 [.ref 0, .lst (iD g), .int cnt] (boxD a b c :: R) = runB (C (n + 1)) d24.fd [.ref 0, .lst (iD g), .int cnt] (boxD a b c :: R) := callI rfl rfl rfl
  rw [hE]
  show ∃ f k a' c' R', runB (C (n + 1)) ⟨3, 6, false, b24⟩ _ _ = _ ∧ _
  obtain ⟨N, hN, hN2, hsr⟩ : ∃ N : Nat, N ≤ g.length ∧ N < 1000 ∧ srcRange [.int (if ((g.length : Nat) : Int) < cnt then ((g.length : Nat) : Int) else cnt)] = some (.rng 0 N) := by
    by_cases hc : ((g.length : Nat) : Int) < cnt
    · exact ⟨g.length, Nat.le_refl _, by omega, by rw [if_pos hc]; exact sr_nat (by omega)⟩
    · refine ⟨cnt.toNat, by omega, by omega, ?_⟩
      rw [if_neg hc]
      have e : cnt = ((cnt.toNat : Nat) : Int) := by omega
      have z := sr_nat (m := cnt.toNat) (by omega)
      rw [← e] at z
      exact z
  have loop := for_inv (src := .rng 0 N) (tg := evG (C (n + 1)) (.name 3)) (N := N)
    (tb := evB (C (n + 1)) (.cons (.expr (.meth (.var 5) .append (.cons (.meth (.var 4) .pop (.cons (.call 22 (.cons (.var 0) (.cons (.bcall false .len (.var 4)) .nil))) .nil)) .nil))) .nil))
    (fun i ρ St => ∃ (x3 : Option D) (p f : List Int) (a1 c2 : Int), ρ = [some (.ref 0), some (.lst (iD g)), some (.int cnt), x3, some (.ref (R.length + 1)), some (.ref (R.length + 2))] ∧ St = boxD a1 b c2 :: (R ++ [.lst (iD p), .lst (iD f)]) ∧
      p.length + i = g.length ∧ f.length = i ∧ (∀ x ∈ p, x ∈ g) ∧ (∀ x ∈ f, x ∈ g) ∧ 0 ≤ a1 ∧ 0 ≤ c2 ∧ c2 ≤ c + (i : Int))
    (fun o => ∃ (x3 : Option D) (p f : List Int) (a1 c2 : Int), o = .nx [some (.ref 0), some (.lst (iD g)), some (.int cnt), x3, some (.ref (R.length + 1)), some (.ref (R.length + 2))] (boxD a1 b c2 :: (R ++ [.lst (iD p), .lst (iD f)])) ∧
      f.length ≤ g.length ∧ (∀ x ∈ f, x ∈ g) ∧ 0 ≤ a1 ∧ 0 ≤ c2 ∧ c2 ≤ c + g.length)
    (by
      rintro i ρ St hi ⟨x3, p, f, a1, c2, rfl, rfl, hp, hf, ip, ifg, a10, c20, c21⟩
      refine ⟨.int (i : Nat), [some (.ref 0), some (.lst (iD g)), some (.int cnt), some (.int (i : Nat)), some (.ref (R.length + 1)), some (.ref (R.length + 2))], _, ?_, rfl, ?_⟩
      · rw [at_rng, List.getElem?_range hi]
        rfl
      · obtain ⟨r, a3, c3, q, r0, r1, a30, c30, c31⟩ := e_take (n := n) (a := a1) (b := b) (c := c2) (w := ((p.length : Nat) : Int)) (R := R ++ [.lst (iD p), .lst (iD f)]) a10 b0 c20 (by omega) (by omega) (by omega)
        have q' : callN (tblOf tbl) (cnOf cis) 1000 (n + 1) 22 [.ref 0, .int ((p.length : Nat) : Int)] (boxD a1 b c2 :: (R ++ [.lst (iD p), .lst (iD f)])) = .ok (.int r) (boxD a3 b c3 :: (R ++ [.lst (iD p), .lst (iD f)])) := q
        have ix : L2.ixN (iD p).length r = some r.toNat := by
          unfold L2.ixN
          rw [iD_len, if_pos r0, if_pos r1]
        have hj : r.toNat < p.length := by omega
        have gt : (iD p)[r.toNat]? = some (.int p[r.toNat]) := by
          rw [iD_get, List.getElem?_eq_getElem hj]
          rfl
        have po := two_pop (x := boxD a3 b c3) (R := R) (f := .lst (iD f)) (xs := iD p) (i := r) (by omega) ix gt
        have ap := two_app (x := boxD a3 b c3) (R := R) (p := .lst ((iD p).eraseIdx r.toNat)) (xs := iD f) (d := .int p[r.toNat]) (by rw [iD_len]; omega)
        simp only [runB, ev_0A, ev_1A, ev_2A, ev_3A, ev_4A, ev_5A, ev_6A, ev_7A, ev_8A, ev_9A, ev_10A, ev_11A, ev_12A, ev_13A, ev_14A, ev_15A, ev_16A, ev_17A, ev_18A, ev_19A, ev_20A, ev_21A, evs_0A, evs_1A, evO_0A, evO_1A, evT_0A, evT_1A, evT_2A, evT_3A, evT_4A, evT_5A, evT_6A, evT_7A, evT_8A, evT_9A, evT_10A, evT_11A, evT_12A, evTs_0A, evTs_1A, evI_0A, evI_1A, evI_2A, evI_3A, evI_4A, evG_0A, evG_1A, evG_2A, evS_0A, evS_1A, evS_2A, evS_3A, evS_4A, evS_5A, evS_6A, evS_7A, evS_8A, evS_9A, evS_10A, bindO_ok, bindO_exn, bindO_bad, Res.bind_ok, Res.bind_exn, Res.bind_bad, Res.bindN_ok, optR_some, K0.d, EC, setN, setNs, wipeR, List.map_cons, List.map_nil, List.set_cons_zero, List.set_cons_succ, List.getElem?_cons_zero, List.getElem?_cons_succ, List.cons_append, List.nil_append, List.length_cons, List.length_nil, Option.map_some, Option.map_none, Nat.reduceAdd, Nat.reduceSub, Nat.reduceLeDiff, if_true, if_false, Bool.false_eq_true, List.replicate, evB_nil, evB_cons, seqO_nx, seqO_rt, seqO_exn, endD_exn, cmp_eq_int, cmp_ne_int, cmp_eq_bl, cmp_ne_bl, Bool.not_true, Bool.not_false, List.filterMap_cons, List.filterMap_nil, truth_bl, truth_int, truth_non, truth_tup, truth_lst, cmp_lt, cmp_le, cmp_gt, cmp_ge, cmp_in, cmp_inL, cmp_notin, ix_tup, ix_lst, ix_kl, add_int_true, sub_int_true, add_tup_true, pow_int_true, mul_tup_true, add_lst_true, sl_tup_true, sl_lst_true, sl_kl_true, len_tup_true, tuple_tup_true, list_tup_true, len_lst_true, tuple_lst_true, list_lst_true, len_kl_true, tuple_kl_true, list_kl_true, tuple_ref_true, int_int_true, int_bl_true, abs_int_true, all_lst_true, any_lst_true, sum_lst_true, max_lst_true, add_int_false, sub_int_false, add_tup_false, pow_int_false, mul_tup_false, add_lst_false, sl_tup_false, sl_lst_false, sl_kl_false, len_tup_false, tuple_tup_false, list_tup_false, len_lst_false, tuple_lst_false, list_lst_false, len_kl_false, tuple_kl_false, list_kl_false, tuple_ref_false, int_int_false, int_bl_false, abs_int_false, all_lst_false, any_lst_false, sum_lst_false, max_lst_false, newL_f, newL_t, sv_tup, sv_lst, sv_kl, se_tup, se_lst, se_kl, sz_tup, sz_lst, all_const, beq_self_eq_true, eq_self, decide_true, iD_len, in_iD, in_iDL, filter_tt, map_idd, atI_zero, blsOf_map, intsOf_map, all_map_id, cut_tail, is_int_n, isnot_int_n, is_bl_n, isnot_bl_n, is_str_n, isnot_str_n, is_tup_n, isnot_tup_n, is_lst_n, isnot_lst_n, is_kl_n, isnot_kl_n, is_non_n, isnot_non_n, is_bl_bl, seq_ref0, lst_ref0, own_ref0, truth_ref0, ix_ref0, app_ref0, tuple_ref0, len_ref0, set_ref0, isSome_some, atI_last, ix3_0, ix3_1, ix3_2, at3_1, at3_2, isi_non_int, isi_non_bl, isi_non_str, isi_non_tup, isi_non_lst, isi_non_lst_tup, isi_non_bl_str, isi_bl_int, isi_bl_bl, isi_bl_str, isi_bl_tup, isi_bl_lst, isi_bl_lst_tup, isi_bl_bl_str, isi_int_int, isi_int_bl, isi_int_str, isi_int_tup, isi_int_lst, isi_int_lst_tup, isi_int_bl_str, isi_str_int, isi_str_bl, isi_str_str, isi_str_tup, isi_str_lst, isi_str_lst_tup, isi_str_bl_str, isi_tup_int, isi_tup_bl, isi_tup_str, isi_tup_tup, isi_tup_lst, isi_tup_lst_tup, isi_tup_bl_str, isi_lst_int, isi_lst_bl, isi_lst_str, isi_lst_tup, isi_lst_lst, isi_lst_lst_tup, isi_lst_bl_str, isi_kl_int, isi_kl_bl, isi_kl_str, isi_kl_tup, isi_kl_lst, isi_kl_lst_tup, isi_kl_bl_str, endD_rt, endD_nx, seq_tupD, seq_lstD, mm_int, two_own, two_own2, two_len, q', po, ap]
        refine ⟨some (.int (i : Nat)), p.eraseIdx r.toNat, f ++ [p[r.toNat]], a3, c3, rfl, ?_, ?_, ?_, ?_, ?_, a30, c30, by omega⟩
        · rw [iD_app, iD_erase]
          rfl
        · rw [List.length_eraseIdx, if_pos hj]
          omega
        · simp [hf]
        · exact fun x hx => ip x (List.mem_of_mem_eraseIdx hx)
        · intro x hx
          rcases List.mem_append.mp hx with hx | hx
          · exact ifg x hx
          · rw [List.mem_singleton.mp hx]
            exact ip _ (List.getElem_mem hj))
    (by
      rintro ρ St ⟨x3, p, f, a1, c2, rfl, rfl, hp, hf, ip, ifg, a10, c20, c21⟩
      refine ⟨?_, x3, p, f, a1, c2, rfl, by omega, ifg, a10, c20, by omega⟩
      rw [at_rng, List.getElem?_eq_none (by rw [List.length_range]; exact Nat.le_refl _)]
      rfl)
    1000 0 [some (.ref 0), some (.lst (iD g)), some (.int cnt), none, some (.ref (R.length + 1)), some (.ref (R.length + 2))] (boxD a b c :: (R ++ [.lst (iD g), .lst []])) (by omega) (by omega) ⟨none, g, [], a, c, rfl, rfl, by omega, rfl, fun _ h => h, fun _ h => absurd h List.not_mem_nil, a0, c0, by omega⟩
  obtain ⟨x3, p, f, a1, c2, e, hfl, ifg, a10, c20, c21⟩ := loop
  refine ⟨f, R.length + 2, a1, c2, R ++ [.lst (iD p), .lst (iD f)], ?_, two_seq, ifg, hfl, a10, c20, c21⟩
  have l1 : biD false .len (.ref (R.length + 1)) (boxD a b c :: (R ++ [.lst (iD g), .lst []])) = .ok (.int g.length) (boxD a b c :: (R ++ [.lst (iD g), .lst []])) := by
    rw [two_len, iD_len]
  have s0 : (boxD a b c :: R).length = R.length + 1 := rfl
  have s1 : ((boxD a b c :: R) ++ [SO.lst (iD g)]).length = R.length + 2 := by simp
  have s2 : ((boxD a b c :: R) ++ [SO.lst (iD g)]) ++ [SO.lst []] = boxD a b c :: (R ++ [.lst (iD g), .lst []]) := by simp
  have w1 : biD true .list (.lst (iD g)) (boxD a b c :: R) = .ok (.ref (R.length + 1)) ((boxD a b c :: R) ++ [SO.lst (iD g)]) := rfl
  have w2 : newL true [] ((boxD a b c :: R) ++ [SO.lst (iD g)]) = .ok (.ref (R.length + 2)) (boxD a b c :: (R ++ [.lst (iD g), .lst []])) := by
    rw [newL_t, s1, s2]
  have t1 : evS (C (n + 1)) (.par 4 5 (.bcall true .list (.var 1)) (.lst true .nil)) [some (.ref 0), some (.lst (iD g)), some (.int cnt), none, none, none] (boxD a b c :: R) =
      .nx [some (.ref 0), some (.lst (iD g)), some (.int cnt), none, some (.ref (R.length + 1)), some (.ref (R.length + 2))] (boxD a b c :: (R ++ [.lst (iD g), .lst []])) := by
    simp only [evS_9A, ev_18A, ev_0A, ev_4A, evs_0A, Res.bind_ok, bindO_ok, List.getElem?_cons_succ, List.getElem?_cons_zero, w1, w2, setN, List.set_cons_succ, List.set_cons_zero]
  simp only [runB, b24, List.map_cons, List.map_nil, List.cons_append, List.nil_append, List.replicate]
  rw [evB_cons, t1, seqO_nx]
  simp only [runB, ev_0A, ev_1A, ev_2A, ev_3A, ev_4A, ev_5A, ev_6A, ev_7A, ev_8A, ev_9A, ev_10A, ev_11A, ev_12A, ev_13A, ev_14A, ev_15A, ev_16A, ev_17A, ev_18A, ev_19A, ev_20A, ev_21A, evs_0A, evs_1A, evO_0A, evO_1A, evT_0A, evT_1A, evT_2A, evT_3A, evT_4A, evT_5A, evT_6A, evT_7A, evT_8A, evT_9A, evT_10A, evT_11A, evT_12A, evTs_0A, evTs_1A, evI_0A, evI_1A, evI_2A, evI_3A, evI_4A, evG_0A, evG_1A, evG_2A, evS_0A, evS_1A, evS_2A, evS_3A, evS_4A, evS_5A, evS_6A, evS_7A, evS_8A, evS_9A, evS_10A, bindO_ok, bindO_exn, bindO_bad, Res.bind_ok, Res.bind_exn, Res.bind_bad, Res.bindN_ok, optR_some, K0.d, EC, setN, setNs, wipeR, List.map_cons, List.map_nil, List.set_cons_zero, List.set_cons_succ, List.getElem?_cons_zero, List.getElem?_cons_succ, List.cons_append, List.nil_append, List.length_cons, List.length_nil, Option.map_some, Option.map_none, Nat.reduceAdd, Nat.reduceSub, Nat.reduceLeDiff, if_true, if_false, Bool.false_eq_true, List.replicate, evB_nil, evB_cons, seqO_nx, seqO_rt, seqO_exn, endD_exn, cmp_eq_int, cmp_ne_int, cmp_eq_bl, cmp_ne_bl, Bool.not_true, Bool.not_false, List.filterMap_cons, List.filterMap_nil, truth_bl, truth_int, truth_non, truth_tup, truth_lst, cmp_lt, cmp_le, cmp_gt, cmp_ge, cmp_in, cmp_inL, cmp_notin, ix_tup, ix_lst, ix_kl, add_int_true, sub_int_true, add_tup_true, pow_int_true, mul_tup_true, add_lst_true, sl_tup_true, sl_lst_true, sl_kl_true, len_tup_true, tuple_tup_true, list_tup_true, len_lst_true, tuple_lst_true, list_lst_true, len_kl_true, tuple_kl_true, list_kl_true, tuple_ref_true, int_int_true, int_bl_true, abs_int_true, all_lst_true, any_lst_true, sum_lst_true, max_lst_true, add_int_false, sub_int_false, add_tup_false, pow_int_false, mul_tup_false, add_lst_false, sl_tup_false, sl_lst_false, sl_kl_false, len_tup_false, tuple_tup_false, list_tup_false, len_lst_false, tuple_lst_false, list_lst_false, len_kl_false, tuple_kl_false, list_kl_false, tuple_ref_false, int_int_false, int_bl_false, abs_int_false, all_lst_false, any_lst_false, sum_lst_false, max_lst_false, newL_f, newL_t, sv_tup, sv_lst, sv_kl, se_tup, se_lst, se_kl, sz_tup, sz_lst, all_const, beq_self_eq_true, eq_self, decide_true, iD_len, in_iD, in_iDL, filter_tt, map_idd, atI_zero, blsOf_map, intsOf_map, all_map_id, cut_tail, is_int_n, isnot_int_n, is_bl_n, isnot_bl_n, is_str_n, isnot_str_n, is_tup_n, isnot_tup_n, is_lst_n, isnot_lst_n, is_kl_n, isnot_kl_n, is_non_n, isnot_non_n, is_bl_bl, seq_ref0, lst_ref0, own_ref0, truth_ref0, ix_ref0, app_ref0, tuple_ref0, len_ref0, set_ref0, isSome_some, atI_last, ix3_0, ix3_1, ix3_2, at3_1, at3_2, isi_non_int, isi_non_bl, isi_non_str, isi_non_tup, isi_non_lst, isi_non_lst_tup, isi_non_bl_str, isi_bl_int, isi_bl_bl, isi_bl_str, isi_bl_tup, isi_bl_lst, isi_bl_lst_tup, isi_bl_bl_str, isi_int_int, isi_int_bl, isi_int_str, isi_int_tup, isi_int_lst, isi_int_lst_tup, isi_int_bl_str, isi_str_int, isi_str_bl, isi_str_str, isi_str_tup, isi_str_lst, isi_str_lst_tup, isi_str_bl_str, isi_tup_int, isi_tup_bl, isi_tup_str, isi_tup_tup, isi_tup_lst, isi_tup_lst_tup, isi_tup_bl_str, isi_lst_int, isi_lst_bl, isi_lst_str, isi_lst_tup, isi_lst_lst, isi_lst_lst_tup, isi_lst_bl_str, isi_kl_int, isi_kl_bl, isi_kl_str, isi_kl_tup, isi_kl_lst, isi_kl_lst_tup, isi_kl_bl_str, endD_rt, endD_nx, seq_tupD, seq_lstD, mm_int, l1, hsr, e]
end K40
namespace K40
open PySem DL
/-! ### the plain law of covers and heads -/
section
variable {ks : List Int} (h : isK ks = true)
theorem mem_range {m : Nat} {j : Int} : j ∈ (List.range m).map (fun (i : Nat) => (i : Int)) ↔ 0 ≤ j ∧ j < m := by
  rw [List.mem_map]
  constructor
  · rintro ⟨i, hi, rfl⟩
    have := List.mem_range.mp hi
    omega
  · rintro ⟨h0, h1⟩
    exact ⟨j.toNat, List.mem_range.mpr (by omega), by omega⟩
theorem mem_frange {m : Nat} {p : Nat → Bool} {j : Int} : j ∈ ((List.range m).filter p).map (fun (i : Nat) => (i : Int)) ↔ 0 ≤ j ∧ j < m ∧ p j.toNat = true := by
  rw [List.mem_map]
  constructor
  · rintro ⟨i, hi, rfl⟩
    obtain ⟨h1, h2⟩ := List.mem_filter.mp hi
    have := List.mem_range.mp h1
    exact ⟨by omega, by omega, by simpa using h2⟩
  · rintro ⟨h0, h1, h2⟩
    exact ⟨j.toNat, List.mem_filter.mpr ⟨List.mem_range.mpr (by omega), h2⟩, by omega⟩
theorem sorted_frange {m : Nat} {p : Nat → Bool} : (((List.range m).filter p).map (fun (i : Nat) => (i : Int))).Pairwise (· < ·) := by
  rw [List.pairwise_map]
  exact ((List.pairwise_lt_range).filter _).imp fun h => by omega
theorem mem_under {k j : Int} : j ∈ under ks k ↔ 0 ≤ j ∧ j < ks.length ∧ k ∈ line ks j := by
  unfold under
  rw [mem_frange]
  constructor
  · rintro ⟨h0, h1, h2⟩
    have e : ((j.toNat : Nat) : Int) = j := by omega
    rw [e] at h2
    exact ⟨h0, h1, of_decide_eq_true h2⟩
  · rintro ⟨h0, h1, h2⟩
    have e : ((j.toNat : Nat) : Int) = j := by omega
    rw [e]
    exact ⟨h0, h1, decide_eq_true h2⟩
theorem mem_cover {row : List Int} {j : Int} : j ∈ coverR ks row ↔ 0 ≤ j ∧ j < ks.length ∧ ∃ k ∈ row, k ∈ line ks j := by
  unfold coverR
  rw [sset_mem, List.mem_flatten]
  constructor
  · rintro ⟨l, hl, hj⟩
    obtain ⟨k, hk, rfl⟩ := List.mem_map.mp hl
    obtain ⟨h0, h1, h2⟩ := mem_under.mp hj
    exact ⟨h0, h1, k, hk, h2⟩
  · rintro ⟨h0, h1, k, hk, h2⟩
    exact ⟨_, List.mem_map.mpr ⟨k, hk, rfl⟩, mem_under.mpr ⟨h0, h1, h2⟩⟩
theorem cover_sorted {row : List Int} : (coverR ks row).Pairwise (· < ·) := sset_sorted _
theorem cover_ok {row : List Int} : rowOk ks (coverR ks row) := ⟨cover_sorted, fun x hx => by
  have := mem_cover.mp hx
  exact ⟨this.1, this.2.1⟩⟩
theorem lcover_eq {row : List Int} : lcoverR ks row = coverR ks row := by
  refine sorted_eq _ _ sorted_frange cover_sorted fun j => ?_
  unfold lcoverR
  rw [mem_frange, mem_cover]
  constructor
  · rintro ⟨h0, h1, h2⟩
    have e : ((j.toNat : Nat) : Int) = j := by omega
    rw [e, Bool.not_eq_true', List.isEmpty_eq_false_iff_exists_mem] at h2
    obtain ⟨x, hx⟩ := h2
    obtain ⟨a, b⟩ := List.mem_filter.mp hx
    exact ⟨h0, h1, x, of_decide_eq_true b, a⟩
  · rintro ⟨h0, h1, x, hx, hx2⟩
    have e : ((j.toNat : Nat) : Int) = j := by omega
    rw [e, Bool.not_eq_true', List.isEmpty_eq_false_iff_exists_mem]
    exact ⟨h0, h1, x, List.mem_filter.mpr ⟨hx2, decide_eq_true hx⟩⟩
theorem head_iff {row : List Int} {o : Int} : headB ks row o = true ↔ ∀ x ∈ row, x ∈ line ks o → x = o := by
  unfold headB
  rw [Bool.not_eq_true', List.any_eq_false]
  constructor
  · intro q x hx hl
    by_cases e : x = o
    · exact e
    · have := q x hx
      rw [Bool.and_eq_true, decide_eq_true_eq, decide_eq_true_eq] at this
      exact absurd ⟨fun z => e z.symm, hl⟩ this
  · intro q x hx z
    rw [Bool.and_eq_true, decide_eq_true_eq, decide_eq_true_eq] at z
    exact z.1 (q x hx z.2).symm
theorem mem_head {row : List Int} {o : Int} : o ∈ headR ks row ↔ o ∈ row ∧ ∀ x ∈ row, x ∈ line ks o → x = o := by
  unfold headR
  rw [sset_mem, List.mem_filter, head_iff]
theorem head_ok {row : List Int} (hr : ∀ x ∈ row, 0 ≤ x ∧ x < ks.length) : rowOk ks (headR ks row) := ⟨sset_sorted _, fun x hx => hr x (mem_head.mp hx).1⟩
include h
theorem lhead_eq {row : List Int} (hr : ∀ x ∈ row, 0 ≤ x ∧ x < ks.length) : lheadR ks row = headR ks row := by
  unfold lheadR headR
  congr 1
  refine List.filter_congr fun o ho => ?_
  obtain ⟨o0, o1⟩ := hr o ho
  have e := line_step h o0 o1
  have de := line_desc h o0 o1
  rw [e] at de
  have d1 := (List.pairwise_cons.mp de).1
  have iff1 : ((line ks o).tail.filter fun x => decide (x ∈ row)).isEmpty = true ↔ headB ks row o = true := by
    rw [head_iff, List.isEmpty_iff, List.filter_eq_nil_iff]
    constructor
    · intro q x hx hl
      rw [e] at hl q
      rcases List.mem_cons.mp hl with z | z
      · exact z
      · exact absurd (decide_eq_true hx) (q x z)
    · intro q x hx z
      rw [e] at hx
      have z := of_decide_eq_true z
      have hx : x ∈ line ks (par ks o) := hx
      have := q x z (by rw [e]; exact List.mem_cons_of_mem _ hx)
      have := d1 x hx
      omega
  cases q : headB ks row o with
  | true => exact iff1.mpr q
  | false =>
    cases q2 : ((line ks o).tail.filter fun x => decide (x ∈ row)).isEmpty with
    | false => rfl
    | true => rw [iff1.mp q2] at q; cases q
/-- a head lies above each -/
theorem head_above {row : List Int} (hr : ∀ x ∈ row, 0 ≤ x ∧ x < ks.length) : ∀ (f : Nat) (k : Int), k ∈ row → k < f → ∃ o ∈ headR ks row, o ∈ line ks k
  | 0, k, hk, hf => by have := (hr k hk).1; omega
  | f + 1, k, hk, hf => by
    obtain ⟨k0, k1⟩ := hr k hk
    by_cases q : ∀ x ∈ row, x ∈ line ks k → x = k
    · exact ⟨k, mem_head.mpr ⟨hk, q⟩, line_self h k0 k1⟩
    · have ⟨x, hx⟩ := Classical.not_forall.mp q
      have ⟨hx1, hx2⟩ := Classical.not_imp.mp hx
      have ⟨hx3, hx4⟩ := Classical.not_imp.mp hx2
      have le := (line_mem h k0 k1 x hx3).2
      obtain ⟨o, ho, ho2⟩ := head_above hr f x hx1 (by omega)
      exact ⟨o, ho, line_sub h k0 k1 x hx3 o ho2⟩
theorem cover_heads {row : List Int} (hr : ∀ x ∈ row, 0 ≤ x ∧ x < ks.length) : coverR ks (headR ks row) = coverR ks row := by
  refine sorted_eq _ _ cover_sorted cover_sorted fun j => ?_
  rw [mem_cover, mem_cover]
  constructor
  · rintro ⟨h0, h1, k, hk, hl⟩
    exact ⟨h0, h1, k, (mem_head.mp hk).1, hl⟩
  · rintro ⟨h0, h1, k, hk, hl⟩
    obtain ⟨o, ho, ho2⟩ := head_above h hr (k.toNat + 1) k hk (by omega)
    exact ⟨h0, h1, o, ho, line_sub h h0 h1 k hl o ho2⟩
theorem self_cover {row : List Int} (hr : ∀ x ∈ row, 0 ≤ x ∧ x < ks.length) {k : Int} (hk : k ∈ row) : k ∈ coverR ks row := mem_cover.mpr ⟨(hr k hk).1, (hr k hk).2, k, hk, line_self h (hr k hk).1 (hr k hk).2⟩
theorem cover_cover {row : List Int} (hr : ∀ x ∈ row, 0 ≤ x ∧ x < ks.length) : coverR ks (coverR ks row) = coverR ks row := by
  refine sorted_eq _ _ cover_sorted cover_sorted fun j => ?_
  rw [mem_cover]
  constructor
  · rintro ⟨h0, h1, c, hc, hl⟩
    obtain ⟨c0, c1, k, hk, hk2⟩ := mem_cover.mp hc
    exact mem_cover.mpr ⟨h0, h1, k, hk, line_sub h h0 h1 c hl k hk2⟩
  · intro hj
    have q := mem_cover.mp hj
    exact ⟨q.1, q.2.1, j, hj, line_self h q.1 q.2.1⟩
theorem heads_cover {row : List Int} (hr : ∀ x ∈ row, 0 ≤ x ∧ x < ks.length) : headR ks (coverR ks row) = headR ks row := by
  refine sorted_eq _ _ (sset_sorted _) (sset_sorted _) fun o => ?_
  rw [mem_head, mem_head]
  constructor
  · rintro ⟨ho, hm⟩
    obtain ⟨o0, o1, k, hk, hk2⟩ := mem_cover.mp ho
    have e := hm k (self_cover h hr hk) hk2
    subst e
    exact ⟨hk, fun x hx hl => hm x (self_cover h hr hx) hl⟩
  · rintro ⟨ho, hm⟩
    obtain ⟨o0, o1⟩ := hr o ho
    refine ⟨self_cover h hr ho, fun x hx hl => ?_⟩
    obtain ⟨x0, x1, k, hk, hk2⟩ := mem_cover.mp hx
    have e := hm k hk (line_sub h o0 o1 x hl k hk2)
    subst e
    have a1 := (line_mem h o0 o1 x hl).2
    have a2 := (line_mem h x0 x1 k hk2).2
    omega
theorem cover_both {row far : List Int} : coverR ks (sset (row ++ far)) = sset (coverR ks row ++ coverR ks far) := by
  refine sorted_eq _ _ cover_sorted (sset_sorted _) fun j => ?_
  rw [sset_mem, List.mem_append, mem_cover, mem_cover, mem_cover]
  constructor
  · rintro ⟨h0, h1, k, hk, hl⟩
    rcases List.mem_append.mp ((sset_mem k _).mp hk) with hk | hk
    · exact .inl ⟨h0, h1, k, hk, hl⟩
    · exact .inr ⟨h0, h1, k, hk, hl⟩
  · rintro (⟨h0, h1, k, hk, hl⟩ | ⟨h0, h1, k, hk, hl⟩)
    · exact ⟨h0, h1, k, (sset_mem k _).mpr (List.mem_append_left _ hk), hl⟩
    · exact ⟨h0, h1, k, (sset_mem k _).mpr (List.mem_append_right _ hk), hl⟩
/-- without a head: less -/
theorem less_head {row : List Int} (hr : ∀ x ∈ row, 0 ≤ x ∧ x < ks.length) {o : Int} (ho : o ∈ headR ks row) : o ∉ coverR ks (row.filter fun k => !decide (k = o)) ∧ coverR ks (row.filter fun k => !decide (k = o)) ≠ coverR ks row := by
  obtain ⟨h1, h2⟩ := mem_head.mp ho
  have no : o ∉ coverR ks (row.filter fun k => !decide (k = o)) := fun z => by
    obtain ⟨_, _, k, hk, hl⟩ := mem_cover.mp z
    obtain ⟨a, b⟩ := List.mem_filter.mp hk
    rw [h2 k a hl, decide_eq_true rfl] at b
    cases b
  exact ⟨no, fun e => no (by rw [e]; exact self_cover h hr h1)⟩
/-- without another: the same -/
theorem less_other {row : List Int} (hr : ∀ x ∈ row, 0 ≤ x ∧ x < ks.length) {k : Int} (hk : k ∈ row) (hn : k ∉ headR ks row) : coverR ks (row.filter fun x => !decide (x = k)) = coverR ks row := by
  refine sorted_eq _ _ cover_sorted cover_sorted fun j => ?_
  rw [mem_cover, mem_cover]
  constructor
  · rintro ⟨h0, h1, x, hx, hl⟩
    exact ⟨h0, h1, x, (List.mem_filter.mp hx).1, hl⟩
  · rintro ⟨h0, h1, x, hx, hl⟩
    by_cases e : x = k
    · subst e
      obtain ⟨o, ho, ho2⟩ := head_above h hr (x.toNat + 1) x hk (by omega)
      refine ⟨h0, h1, o, List.mem_filter.mpr ⟨(mem_head.mp ho).1, ?_⟩, line_sub h h0 h1 x hl o ho2⟩
      have : ¬ o = x := fun e => hn (by rw [← e]; exact ho)
      rw [decide_eq_false this]
      rfl
    · exact ⟨h0, h1, x, List.mem_filter.mpr ⟨hx, by rw [decide_eq_false e]; rfl⟩, hl⟩
theorem cover_one {k : Int} : coverR ks [k] = under ks k := by
  refine sorted_eq _ _ cover_sorted sorted_frange fun j => ?_
  rw [mem_cover, mem_under]
  constructor
  · rintro ⟨h0, h1, x, hx, hl⟩
    rw [List.mem_singleton.mp hx] at hl
    exact ⟨h0, h1, hl⟩
  · rintro ⟨h0, h1, hl⟩
    exact ⟨h0, h1, k, List.mem_singleton.mpr rfl, hl⟩
theorem cover_zero : coverR ks [0] = (List.range ks.length).map fun (i : Nat) => (i : Int) := by
  have s : ((List.range ks.length).map fun (i : Nat) => (i : Int)).Pairwise (· < ·) := by
    have := sorted_frange (m := ks.length) (p := fun _ => true)
    rw [filter_tt] at this
    exact this
  refine sorted_eq _ _ cover_sorted s fun j => ?_
  rw [mem_cover, mem_range]
  constructor
  · rintro ⟨h0, h1, _⟩
    exact ⟨h0, h1⟩
  · rintro ⟨h0, h1⟩
    exact ⟨h0, h1, 0, List.mem_singleton.mpr rfl, line_zero h h0 h1⟩
theorem heads_all : headR ks ((List.range ks.length).map fun (i : Nat) => (i : Int)) = [0] := by
  have l8 := isK_len h
  refine sorted_eq _ _ (sset_sorted _) (by simp) fun o => ?_
  rw [mem_head, List.mem_singleton, mem_range]
  constructor
  · rintro ⟨⟨o0, o1⟩, hm⟩
    exact (hm 0 (mem_range.mpr (by omega)) (line_zero h o0 o1)).symm
  · intro e
    subst e
    refine ⟨by omega, fun x hx hl => ?_⟩
    have := line_mem h (by omega) (by omega) x hl
    omega
end
theorem cover_nil {ks : List Int} : coverR ks [] = [] := rfl
theorem heads_nil {ks : List Int} : headR ks [] = [] := rfl
end K40
namespace K40
open PySem DL
def nthS : Sms → Nat → Sm
  | .nil, _ => .pass
  | .cons s _, 0 => s
  | .cons _ r, n + 1 => nthS r n
def dropS : Sms → Nat → Sms
  | b, 0 => b
  | .nil, _ + 1 => .nil
  | .cons _ r, n + 1 => dropS r n
theorem eqv_ints : ∀ a b : List Int, PyData.eqvAll (a.map PyData.int) (b.map PyData.int) = decide (a = b)
  | [], [] => rfl
  | [], y :: b => rfl
  | x :: a, [] => rfl
  | x :: a, y :: b => by
    simp only [List.map_cons, PyData.eqvAll, PyData.eqv, eqv_ints a b]
    by_cases e : x = y
    · subst e
      by_cases e2 : a = b
      · subst e2
        simp
      · simp [e2]
    · simp [e]
theorem eq_tupI {a b : List Int} {S : Store} : cmpD .eq (.tup (iD a)) (.tup (iD b)) S = some (decide (a = b)) := by
  show eqD S (.tup (iD a)) (.tup (iD b)) = _
  unfold eqD pyIn
  rw [frz_pure (by simp only [D.pure]; exact iD_pures a), frz_pure (by simp only [D.pure]; exact iD_pures b)]
  have e : ∀ l : List Int, (some (D.tup (iD l))).bind D.py = some (.tuple (l.map PyData.int)) := fun l => by
    show (D.pys (iD l)).map PyData.tuple = _
    rw [pys_iD]
    rfl
  rw [e, e]
  have sh : ∀ l : List Int, SeqAt.shaped (.tuple (l.map PyData.int)) = true := fun l => by
    obtain ⟨h1, h2⟩ := lay_ints l
    unfold SeqAt.shaped
    simp only [PyData.canLay0, PyData.depth, h1, h2]
    rfl
  simp only [sh, Bool.and_self, if_true, PyData.eqv, eqv_ints]
theorem ne_tupI {a b : List Int} {S : Store} : cmpD .ne (.tup (iD a)) (.tup (iD b)) S = some (!decide (a = b)) := by
  show (cmpD .eq (.tup (iD a)) (.tup (iD b)) S).map (!·) = _
  rw [eq_tupI]
  rfl
theorem notin_I {i : Int} {a : List Int} {S : Store} : cmpD .notin (.int i) (.tup (iD a)) S = some (!decide (i ∈ a)) := by
  show (inD S (.int i) (.tup (iD a))).map (!·) = _
  rw [in_iD]
  rfl
abbrev rgI (m : Nat) : List Int := (List.range m).map fun (i : Nat) => (i : Int)
theorem lrg_ok {m : Nat} {S : Store} (h : m ≤ 100000) : biD false .lrg (.int (m : Int)) S = .ok (.lst (iD (rgI m))) S := by
  show (if (m : Int).natAbs ≤ 100000 then newL false ((List.range (m : Int).toNat).map fun (i : Nat) => D.int i) S else .bad) = _
  rw [if_pos (by omega), Int.toNat_natCast, newL_f]
  unfold iD
  rw [List.map_map]
  rfl
theorem trg_ok {m : Nat} {S : Store} (h : m ≤ 100000) : biD false .trg (.int (m : Int)) S = .ok (.tup (iD (rgI m))) S := by
  show (if (m : Int).natAbs ≤ 100000 then Res.ok (D.tup ((List.range (m : Int).toNat).map fun (i : Nat) => D.int i)) S else .bad) = _
  rw [if_pos (by omega), Int.toNat_natCast]
  unfold iD
  rw [List.map_map]
  rfl
theorem addI (xs ys : List Int) (h : xs.length + ys.length ≤ 1000) (S : Store) : binD false .add (.tup (iD xs)) (.tup (iD ys)) S = .ok (.tup (iD (xs ++ ys))) S := by
  rw [add_tup_false, if_pos (by rw [iD_len, iD_len]; omega), iD_app]
theorem okS_iD {m : Nat} {ks : List Int} (h : ks.length < 1000) : okS (m + 1) (.tup (iD ks)) = true := by
  simp only [okS, iD_len, decide_eq_true h, Bool.true_and]
  unfold iD
  rw [List.all_map]
  exact List.all_eq_true.mpr fun _ _ => by cases m <;> rfl
theorem same_tup {n : Nat} {l : List Int} {S : Store} (h : l.length < 1000) : E (n + 5) 26 [.tup (iD l), .tup (iD l)] S = .ok (.bl true) S := by
  rw [show n + 5 = 1 + (n + 3) + 1 by omega]
  exact e_same 1 (n + 3) _ S (okS_iD h)
section
variable {n : Nat} {ks row far : List Int} (h : isK ks = true) (h7 : ks.length ≤ 7) (hr : rowOk ks row) (hf : rowOk ks far)
/-- the rows drawn -/
theorem q2 {a b c : Int} {R : Store} (a0 : 0 ≤ a) (b0 : 0 ≤ b) (c0 : 0 ≤ c) (c1 : c < 800000000) (k1 : 1 ≤ ks.length) (h7 : ks.length ≤ 7) : ∃ (row far : List Int) (a' c' : Int) (R' : Store), rowOk ks row ∧ rowOk ks far ∧ 0 ≤ a' ∧ 0 ≤ c' ∧ c' ≤ c + 20 ∧
    evS (C (n + 5)) (nthS b32 2) [some (.ref 0), some (.tup (iD ks)), some (.int (ks.length : Nat)), none, none, none, none, none, none, none, none, none, none, none, none] (boxD a b c :: R) =
      .nx [some (.ref 0), some (.tup (iD ks)), some (.int (ks.length : Nat)), none, none, none, none, some (.tup (iD row)), some (.tup (iD far)), none, none, none, none, none, none] (boxD a' b c' :: R') := by
  obtain ⟨ys, S', e, rows, a1, c2, R1, rfl, rfl, hl, hok, a10, c10, c11⟩ := lc_inv (src := .rng 0 2) (tg := evG (C (n + 5)) (.name 14)) (tt := evTs (C (n + 5)) .nil)
    (te := ev (C (n + 5)) (.call 29 (.cons (.call 24 (.cons (.var 0) (.cons (.bcall false .lrg (.var 2)) (.cons (.call 22 (.cons (.var 0) (.cons (.con (.int 5)) .nil))) .nil)))) .nil)))
    (ρ := [some (.ref 0), some (.tup (iD ks)), some (.int (ks.length : Nat)), none, none, none, none, none, none, none, none, none, none, none, none]) (N := 2)
    (fun i ys St => ∃ (rows : List (List Int)) (a1 c2 : Int) (R1 : Store), ys = rows.map (fun r => D.tup (iD r)) ∧ St = boxD a1 b c2 :: R1 ∧ rows.length = i ∧ (∀ r ∈ rows, rowOk ks r) ∧ 0 ≤ a1 ∧ 0 ≤ c2 ∧ c2 ≤ c + 8 * (i : Int))
    (by
      rintro i ys St hi ⟨rows, a1, c2, R1, rfl, rfl, hl, hok, a10, c10, c11⟩
      obtain ⟨t, a3, c3, p1, t0, t1, a30, c30, c31⟩ := e_take (n := n + 4) (a := a1) (b := b) (c := c2) (w := 5) (R := R1) a10 b0 c10 (by omega) (by omega) (by omega)
      obtain ⟨f, k, a4, c4, R4, p2, p3, fg, fl, a40, c40, c41⟩ := e_pick (n := n + 3) (a := a3) (b := b) (c := c3) (cnt := t) (g := rgI ks.length) (R := R1) a30 b0 c30 (by omega) (by simp; omega) t0 (by omega)
      have p1' : callN (tblOf tbl) (cnOf cis) 1000 (n + 5) 22 [.ref 0, .int 5] (boxD a1 b c2 :: R1) = .ok (.int t) (boxD a3 b c3 :: R1) := p1
      have p2' : callN (tblOf tbl) (cnOf cis) 1000 (n + 5) 24 [.ref 0, .lst (iD (rgI ks.length)), .int t] (boxD a3 b c3 :: R1) = .ok (.ref k) (boxD a4 b c4 :: R4) := p2
      have lf : f.length ≤ ks.length := by simpa using fl
      have p4 : callN (tblOf tbl) (cnOf cis) 1000 (n + 5) 29 [.ref k] (boxD a4 b c4 :: R4) = .ok (.tup (iD (sset f))) (boxD a4 b c4 :: R4) := e_lset (n := n + 4) p3 (by omega)
      have lr := lrg_ok (m := ks.length) (S := boxD a1 b c2 :: R1) (by omega)
      refine ⟨.int (i : Nat), [some (.ref 0), some (.tup (iD ks)), some (.int (ks.length : Nat)), none, none, none, none, none, none, none, none, none, none, none, some (.int (i : Nat))], _, true, _, ?_, rfl, rfl, ?_⟩
      · rw [at_rng, List.getElem?_range hi]
        rfl
      · rw [if_pos rfl]
        refine ⟨.tup (iD (sset f)), boxD a4 b c4 :: R4, ?_, rows ++ [sset f], a4, c4, R4, ?_, rfl, by simp [hl], ?_, a40, c40, ?_⟩
        · simp only [runB, ev_0A, ev_1A, ev_2A, ev_3A, ev_4A, ev_5A, ev_6A, ev_7A, ev_8A, ev_9A, ev_10A, ev_11A, ev_12A, ev_13A, ev_14A, ev_15A, ev_16A, ev_17A, ev_18A, ev_19A, ev_20A, ev_21A, evs_0A, evs_1A, evO_0A, evO_1A, evT_0A, evT_1A, evT_2A, evT_3A, evT_4A, evT_5A, evT_6A, evT_7A, evT_8A, evT_9A, evT_10A, evT_11A, evT_12A, evTs_0A, evTs_1A, evI_0A, evI_1A, evI_2A, evI_3A, evI_4A, evG_0A, evG_1A, evG_2A, evS_0A, evS_1A, evS_2A, evS_3A, evS_4A, evS_5A, evS_6A, evS_7A, evS_8A, evS_9A, evS_10A, bindO_ok, bindO_exn, bindO_bad, Res.bind_ok, Res.bind_exn, Res.bind_bad, Res.bindN_ok, optR_some, K0.d, EC, setN, setNs, wipeR, List.map_cons, List.map_nil, List.set_cons_zero, List.set_cons_succ, List.getElem?_cons_zero, List.getElem?_cons_succ, List.cons_append, List.nil_append, List.length_cons, List.length_nil, Option.map_some, Option.map_none, Nat.reduceAdd, Nat.reduceSub, Nat.reduceLeDiff, if_true, if_false, Bool.false_eq_true, List.replicate, evB_nil, evB_cons, seqO_nx, seqO_rt, seqO_exn, endD_exn, cmp_eq_int, cmp_ne_int, cmp_eq_bl, cmp_ne_bl, Bool.not_true, Bool.not_false, List.filterMap_cons, List.filterMap_nil, truth_bl, truth_int, truth_non, truth_tup, truth_lst, cmp_lt, cmp_le, cmp_gt, cmp_ge, cmp_in, cmp_inL, cmp_notin, ix_tup, ix_lst, ix_kl, add_int_true, sub_int_true, add_tup_true, pow_int_true, mul_tup_true, add_lst_true, sl_tup_true, sl_lst_true, sl_kl_true, len_tup_true, tuple_tup_true, list_tup_true, len_lst_true, tuple_lst_true, list_lst_true, len_kl_true, tuple_kl_true, list_kl_true, tuple_ref_true, int_int_true, int_bl_true, abs_int_true, all_lst_true, any_lst_true, sum_lst_true, max_lst_true, add_int_false, sub_int_false, add_tup_false, pow_int_false, mul_tup_false, add_lst_false, sl_tup_false, sl_lst_false, sl_kl_false, len_tup_false, tuple_tup_false, list_tup_false, len_lst_false, tuple_lst_false, list_lst_false, len_kl_false, tuple_kl_false, list_kl_false, tuple_ref_false, int_int_false, int_bl_false, abs_int_false, all_lst_false, any_lst_false, sum_lst_false, max_lst_false, newL_f, newL_t, sv_tup, sv_lst, sv_kl, se_tup, se_lst, se_kl, sz_tup, sz_lst, all_const, beq_self_eq_true, eq_self, decide_true, iD_len, in_iD, in_iDL, filter_tt, map_idd, atI_zero, blsOf_map, intsOf_map, all_map_id, cut_tail, is_int_n, isnot_int_n, is_bl_n, isnot_bl_n, is_str_n, isnot_str_n, is_tup_n, isnot_tup_n, is_lst_n, isnot_lst_n, is_kl_n, isnot_kl_n, is_non_n, isnot_non_n, is_bl_bl, seq_ref0, lst_ref0, own_ref0, truth_ref0, ix_ref0, app_ref0, tuple_ref0, len_ref0, set_ref0, isSome_some, atI_last, ix3_0, ix3_1, ix3_2, at3_1, at3_2, isi_non_int, isi_non_bl, isi_non_str, isi_non_tup, isi_non_lst, isi_non_lst_tup, isi_non_bl_str, isi_bl_int, isi_bl_bl, isi_bl_str, isi_bl_tup, isi_bl_lst, isi_bl_lst_tup, isi_bl_bl_str, isi_int_int, isi_int_bl, isi_int_str, isi_int_tup, isi_int_lst, isi_int_lst_tup, isi_int_bl_str, isi_str_int, isi_str_bl, isi_str_str, isi_str_tup, isi_str_lst, isi_str_lst_tup, isi_str_bl_str, isi_tup_int, isi_tup_bl, isi_tup_str, isi_tup_tup, isi_tup_lst, isi_tup_lst_tup, isi_tup_bl_str, isi_lst_int, isi_lst_bl, isi_lst_str, isi_lst_tup, isi_lst_lst, isi_lst_lst_tup, isi_lst_bl_str, isi_kl_int, isi_kl_bl, isi_kl_str, isi_kl_tup, isi_kl_lst, isi_kl_lst_tup, isi_kl_bl_str, endD_rt, endD_nx, seq_tupD, seq_lstD, mm_int, lr, p1', p2', p4]
        · simp
        · intro r hr
          rcases List.mem_append.mp hr with hr | hr
          · exact hok r hr
          · rw [List.mem_singleton.mp hr]
            refine ⟨sset_sorted _, fun x hx => ?_⟩
            exact mem_range.mp (fg x ((sset_mem x f).mp hx))
        · have : ((rgI ks.length).length : Int) ≤ 7 := by simp; omega
          omega)
    (by
      rintro ys St ⟨rows, a1, c2, R1, rfl, rfl, _⟩
      rfl)
    1000 0 [] (boxD a b c :: R) (by omega) (by omega) ⟨[], a, c, R, rfl, rfl, rfl, fun _ h => absurd h List.not_mem_nil, a0, c0, by omega⟩
  match rows, hl with
  | [r1, r2], _ =>
    refine ⟨r1, r2, a1, c2, R1, hok r1 (by simp), hok r2 (by simp), a10, c10, by omega, ?_⟩
    have sr : srcRange [.int 2] = some (.rng 0 2) := rfl
    simp only [b32, nthS, runB, ev_0A, ev_1A, ev_2A, ev_3A, ev_4A, ev_5A, ev_6A, ev_7A, ev_8A, ev_9A, ev_10A, ev_11A, ev_12A, ev_13A, ev_14A, ev_15A, ev_16A, ev_17A, ev_18A, ev_19A, ev_20A, ev_21A, evs_0A, evs_1A, evO_0A, evO_1A, evT_0A, evT_1A, evT_2A, evT_3A, evT_4A, evT_5A, evT_6A, evT_7A, evT_8A, evT_9A, evT_10A, evT_11A, evT_12A, evTs_0A, evTs_1A, evI_0A, evI_1A, evI_2A, evI_3A, evI_4A, evG_0A, evG_1A, evG_2A, evS_0A, evS_1A, evS_2A, evS_3A, evS_4A, evS_5A, evS_6A, evS_7A, evS_8A, evS_9A, evS_10A, bindO_ok, bindO_exn, bindO_bad, Res.bind_ok, Res.bind_exn, Res.bind_bad, Res.bindN_ok, optR_some, K0.d, EC, setN, setNs, wipeR, List.map_cons, List.map_nil, List.set_cons_zero, List.set_cons_succ, List.getElem?_cons_zero, List.getElem?_cons_succ, List.cons_append, List.nil_append, List.length_cons, List.length_nil, Option.map_some, Option.map_none, Nat.reduceAdd, Nat.reduceSub, Nat.reduceLeDiff, if_true, if_false, Bool.false_eq_true, List.replicate, evB_nil, evB_cons, seqO_nx, seqO_rt, seqO_exn, endD_exn, cmp_eq_int, cmp_ne_int, cmp_eq_bl, cmp_ne_bl, Bool.not_true, Bool.not_false, List.filterMap_cons, List.filterMap_nil, truth_bl, truth_int, truth_non, truth_tup, truth_lst, cmp_lt, cmp_le, cmp_gt, cmp_ge, cmp_in, cmp_inL, cmp_notin, ix_tup, ix_lst, ix_kl, add_int_true, sub_int_true, add_tup_true, pow_int_true, mul_tup_true, add_lst_true, sl_tup_true, sl_lst_true, sl_kl_true, len_tup_true, tuple_tup_true, list_tup_true, len_lst_true, tuple_lst_true, list_lst_true, len_kl_true, tuple_kl_true, list_kl_true, tuple_ref_true, int_int_true, int_bl_true, abs_int_true, all_lst_true, any_lst_true, sum_lst_true, max_lst_true, add_int_false, sub_int_false, add_tup_false, pow_int_false, mul_tup_false, add_lst_false, sl_tup_false, sl_lst_false, sl_kl_false, len_tup_false, tuple_tup_false, list_tup_false, len_lst_false, tuple_lst_false, list_lst_false, len_kl_false, tuple_kl_false, list_kl_false, tuple_ref_false, int_int_false, int_bl_false, abs_int_false, all_lst_false, any_lst_false, sum_lst_false, max_lst_false, newL_f, newL_t, sv_tup, sv_lst, sv_kl, se_tup, se_lst, se_kl, sz_tup, sz_lst, all_const, beq_self_eq_true, eq_self, decide_true, iD_len, in_iD, in_iDL, filter_tt, map_idd, atI_zero, blsOf_map, intsOf_map, all_map_id, cut_tail, is_int_n, isnot_int_n, is_bl_n, isnot_bl_n, is_str_n, isnot_str_n, is_tup_n, isnot_tup_n, is_lst_n, isnot_lst_n, is_kl_n, isnot_kl_n, is_non_n, isnot_non_n, is_bl_bl, seq_ref0, lst_ref0, own_ref0, truth_ref0, ix_ref0, app_ref0, tuple_ref0, len_ref0, set_ref0, isSome_some, atI_last, ix3_0, ix3_1, ix3_2, at3_1, at3_2, isi_non_int, isi_non_bl, isi_non_str, isi_non_tup, isi_non_lst, isi_non_lst_tup, isi_non_bl_str, isi_bl_int, isi_bl_bl, isi_bl_str, isi_bl_tup, isi_bl_lst, isi_bl_lst_tup, isi_bl_bl_str, isi_int_int, isi_int_bl, isi_int_str, isi_int_tup, isi_int_lst, isi_int_lst_tup, isi_int_bl_str, isi_str_int, isi_str_bl, isi_str_str, isi_str_tup, isi_str_lst, isi_str_lst_tup, isi_str_bl_str, isi_tup_int, isi_tup_bl, isi_tup_str, isi_tup_tup, isi_tup_lst, isi_tup_lst_tup, isi_tup_bl_str, isi_lst_int, isi_lst_bl, isi_lst_str, isi_lst_tup, isi_lst_lst, isi_lst_lst_tup, isi_lst_bl_str, isi_kl_int, isi_kl_bl, isi_kl_str, isi_kl_tup, isi_kl_lst, isi_kl_lst_tup, isi_kl_bl_str, endD_rt, endD_nx, seq_tupD, seq_lstD, mm_int, sr, e]
include h h7 hr
theorem s3 {st : Store} {x3 x4 x5 x6 x8 x9 x10 x11 x12 x13 x14 : Option D} : evS (C (n + 5)) (nthS b32 3) [some (.ref 0), some (.tup (iD ks)), some (.int (ks.length : Nat)), x3, x4, x5, x6, some (.tup (iD row)), x8, x9, x10, x11, x12, x13, x14] st =
    .nx [some (.ref 0), some (.tup (iD ks)), some (.int (ks.length : Nat)), x3, x4, x5, x6, some (.tup (iD row)), x8, some (.tup (iD (coverR ks row))), some (.tup (iD (headR ks row))), x11, x12, x13, x14] st := by
  have p1 : callN (tblOf tbl) (cnOf cis) 1000 (n + 5) 30 [.tup (iD ks), .tup (iD row)] st = .ok (.tup (iD (coverR ks row))) st := by
    rw [← lcover_eq]
    exact e_lcover (n := n + 3) h
  have p2 : callN (tblOf tbl) (cnOf cis) 1000 (n + 5) 31 [.tup (iD ks), .tup (iD row)] st = .ok (.tup (iD (headR ks row))) st := by
    rw [← lhead_eq h hr.2]
    exact e_lheads (n := n + 3) h h7 hr
  simp only [b32, nthS, runB, ev_0A, ev_1A, ev_2A, ev_3A, ev_4A, ev_5A, ev_6A, ev_7A, ev_8A, ev_9A, ev_10A, ev_11A, ev_12A, ev_13A, ev_14A, ev_15A, ev_16A, ev_17A, ev_18A, ev_19A, ev_20A, ev_21A, evs_0A, evs_1A, evO_0A, evO_1A, evT_0A, evT_1A, evT_2A, evT_3A, evT_4A, evT_5A, evT_6A, evT_7A, evT_8A, evT_9A, evT_10A, evT_11A, evT_12A, evTs_0A, evTs_1A, evI_0A, evI_1A, evI_2A, evI_3A, evI_4A, evG_0A, evG_1A, evG_2A, evS_0A, evS_1A, evS_2A, evS_3A, evS_4A, evS_5A, evS_6A, evS_7A, evS_8A, evS_9A, evS_10A, bindO_ok, bindO_exn, bindO_bad, Res.bind_ok, Res.bind_exn, Res.bind_bad, Res.bindN_ok, optR_some, K0.d, EC, setN, setNs, wipeR, List.map_cons, List.map_nil, List.set_cons_zero, List.set_cons_succ, List.getElem?_cons_zero, List.getElem?_cons_succ, List.cons_append, List.nil_append, List.length_cons, List.length_nil, Option.map_some, Option.map_none, Nat.reduceAdd, Nat.reduceSub, Nat.reduceLeDiff, if_true, if_false, Bool.false_eq_true, List.replicate, evB_nil, evB_cons, seqO_nx, seqO_rt, seqO_exn, endD_exn, cmp_eq_int, cmp_ne_int, cmp_eq_bl, cmp_ne_bl, Bool.not_true, Bool.not_false, List.filterMap_cons, List.filterMap_nil, truth_bl, truth_int, truth_non, truth_tup, truth_lst, cmp_lt, cmp_le, cmp_gt, cmp_ge, cmp_in, cmp_inL, cmp_notin, ix_tup, ix_lst, ix_kl, add_int_true, sub_int_true, add_tup_true, pow_int_true, mul_tup_true, add_lst_true, sl_tup_true, sl_lst_true, sl_kl_true, len_tup_true, tuple_tup_true, list_tup_true, len_lst_true, tuple_lst_true, list_lst_true, len_kl_true, tuple_kl_true, list_kl_true, tuple_ref_true, int_int_true, int_bl_true, abs_int_true, all_lst_true, any_lst_true, sum_lst_true, max_lst_true, add_int_false, sub_int_false, add_tup_false, pow_int_false, mul_tup_false, add_lst_false, sl_tup_false, sl_lst_false, sl_kl_false, len_tup_false, tuple_tup_false, list_tup_false, len_lst_false, tuple_lst_false, list_lst_false, len_kl_false, tuple_kl_false, list_kl_false, tuple_ref_false, int_int_false, int_bl_false, abs_int_false, all_lst_false, any_lst_false, sum_lst_false, max_lst_false, newL_f, newL_t, sv_tup, sv_lst, sv_kl, se_tup, se_lst, se_kl, sz_tup, sz_lst, all_const, beq_self_eq_true, eq_self, decide_true, iD_len, in_iD, in_iDL, filter_tt, map_idd, atI_zero, blsOf_map, intsOf_map, all_map_id, cut_tail, is_int_n, isnot_int_n, is_bl_n, isnot_bl_n, is_str_n, isnot_str_n, is_tup_n, isnot_tup_n, is_lst_n, isnot_lst_n, is_kl_n, isnot_kl_n, is_non_n, isnot_non_n, is_bl_bl, seq_ref0, lst_ref0, own_ref0, truth_ref0, ix_ref0, app_ref0, tuple_ref0, len_ref0, set_ref0, isSome_some, atI_last, ix3_0, ix3_1, ix3_2, at3_1, at3_2, isi_non_int, isi_non_bl, isi_non_str, isi_non_tup, isi_non_lst, isi_non_lst_tup, isi_non_bl_str, isi_bl_int, isi_bl_bl, isi_bl_str, isi_bl_tup, isi_bl_lst, isi_bl_lst_tup, isi_bl_bl_str, isi_int_int, isi_int_bl, isi_int_str, isi_int_tup, isi_int_lst, isi_int_lst_tup, isi_int_bl_str, isi_str_int, isi_str_bl, isi_str_str, isi_str_tup, isi_str_lst, isi_str_lst_tup, isi_str_bl_str, isi_tup_int, isi_tup_bl, isi_tup_str, isi_tup_tup, isi_tup_lst, isi_tup_lst_tup, isi_tup_bl_str, isi_lst_int, isi_lst_bl, isi_lst_str, isi_lst_tup, isi_lst_lst, isi_lst_lst_tup, isi_lst_bl_str, isi_kl_int, isi_kl_bl, isi_kl_str, isi_kl_tup, isi_kl_lst, isi_kl_lst_tup, isi_kl_bl_str, endD_rt, endD_nx, seq_tupD, seq_lstD, mm_int, p1, p2]
theorem s4 {st : Store} {x3 x4 x5 x6 x8 x11 x12 x13 x14 : Option D} : evS (C (n + 5)) (nthS b32 4) [some (.ref 0), some (.tup (iD ks)), some (.int (ks.length : Nat)), x3, x4, x5, x6, some (.tup (iD row)), x8, some (.tup (iD (coverR ks row))), some (.tup (iD (headR ks row))), x11, x12, x13, x14] st =
    .nx [some (.ref 0), some (.tup (iD ks)), some (.int (ks.length : Nat)), some (.lst [.tup (iD (coverR ks row)), .tup (iD (headR ks row)), .tup (iD (coverR ks row)), .tup (iD (coverR ks row)), .tup (iD (headR ks row))]), x4, x5, x6, some (.tup (iD row)), x8, some (.tup (iD (coverR ks row))), some (.tup (iD (headR ks row))), x11, x12, x13, x14] st := by
  have p0 : callN (tblOf tbl) (cnOf cis) 1000 (n + 5) 25 [.tup (iD ks)] st = .ok (.lst (iD ks)) st := e_lists (n := n + 3) (iD_flat ks) (by rw [iD_len]; omega)
  have p1 : callN (tblOf tbl) (cnOf cis) 1000 (n + 5) 19 [.lst (iD ks), .tup (iD row)] st = .ok (.tup (iD (coverR ks row))) st := e_covered (.inr rfl) (.inl rfl) h h7 hr
  have p2 : callN (tblOf tbl) (cnOf cis) 1000 (n + 5) 20 [.tup (iD ks), .lst (iD row)] st = .ok (.tup (iD (headR ks row))) st := e_heads (.inl rfl) (.inr rfl) h h7 hr
  have p3 : callN (tblOf tbl) (cnOf cis) 1000 (n + 5) 19 [.tup (iD ks), .tup (iD (headR ks row))] st = .ok (.tup (iD (coverR ks row))) st := by
    have := e_covered (n := n) (S := st) (.inl rfl) (.inl rfl) h h7 (head_ok hr.2)
    rw [cover_heads h hr.2] at this
    exact this
  have p4 : callN (tblOf tbl) (cnOf cis) 1000 (n + 5) 19 [.tup (iD ks), .tup (iD (coverR ks row))] st = .ok (.tup (iD (coverR ks row))) st := by
    have := e_covered (n := n) (S := st) (.inl rfl) (.inl rfl) h h7 (cover_ok (ks := ks) (row := row))
    rw [cover_cover h hr.2] at this
    exact this
  have p5 : callN (tblOf tbl) (cnOf cis) 1000 (n + 5) 20 [.tup (iD ks), .tup (iD (coverR ks row))] st = .ok (.tup (iD (headR ks row))) st := by
    have := e_heads (n := n) (S := st) (.inl rfl) (.inl rfl) h h7 (cover_ok (ks := ks) (row := row))
    rw [heads_cover h hr.2] at this
    exact this
  simp only [b32, nthS, runB, ev_0A, ev_1A, ev_2A, ev_3A, ev_4A, ev_5A, ev_6A, ev_7A, ev_8A, ev_9A, ev_10A, ev_11A, ev_12A, ev_13A, ev_14A, ev_15A, ev_16A, ev_17A, ev_18A, ev_19A, ev_20A, ev_21A, evs_0A, evs_1A, evO_0A, evO_1A, evT_0A, evT_1A, evT_2A, evT_3A, evT_4A, evT_5A, evT_6A, evT_7A, evT_8A, evT_9A, evT_10A, evT_11A, evT_12A, evTs_0A, evTs_1A, evI_0A, evI_1A, evI_2A, evI_3A, evI_4A, evG_0A, evG_1A, evG_2A, evS_0A, evS_1A, evS_2A, evS_3A, evS_4A, evS_5A, evS_6A, evS_7A, evS_8A, evS_9A, evS_10A, bindO_ok, bindO_exn, bindO_bad, Res.bind_ok, Res.bind_exn, Res.bind_bad, Res.bindN_ok, optR_some, K0.d, EC, setN, setNs, wipeR, List.map_cons, List.map_nil, List.set_cons_zero, List.set_cons_succ, List.getElem?_cons_zero, List.getElem?_cons_succ, List.cons_append, List.nil_append, List.length_cons, List.length_nil, Option.map_some, Option.map_none, Nat.reduceAdd, Nat.reduceSub, Nat.reduceLeDiff, if_true, if_false, Bool.false_eq_true, List.replicate, evB_nil, evB_cons, seqO_nx, seqO_rt, seqO_exn, endD_exn, cmp_eq_int, cmp_ne_int, cmp_eq_bl, cmp_ne_bl, Bool.not_true, Bool.not_false, List.filterMap_cons, List.filterMap_nil, truth_bl, truth_int, truth_non, truth_tup, truth_lst, cmp_lt, cmp_le, cmp_gt, cmp_ge, cmp_in, cmp_inL, cmp_notin, ix_tup, ix_lst, ix_kl, add_int_true, sub_int_true, add_tup_true, pow_int_true, mul_tup_true, add_lst_true, sl_tup_true, sl_lst_true, sl_kl_true, len_tup_true, tuple_tup_true, list_tup_true, len_lst_true, tuple_lst_true, list_lst_true, len_kl_true, tuple_kl_true, list_kl_true, tuple_ref_true, int_int_true, int_bl_true, abs_int_true, all_lst_true, any_lst_true, sum_lst_true, max_lst_true, add_int_false, sub_int_false, add_tup_false, pow_int_false, mul_tup_false, add_lst_false, sl_tup_false, sl_lst_false, sl_kl_false, len_tup_false, tuple_tup_false, list_tup_false, len_lst_false, tuple_lst_false, list_lst_false, len_kl_false, tuple_kl_false, list_kl_false, tuple_ref_false, int_int_false, int_bl_false, abs_int_false, all_lst_false, any_lst_false, sum_lst_false, max_lst_false, newL_f, newL_t, sv_tup, sv_lst, sv_kl, se_tup, se_lst, se_kl, sz_tup, sz_lst, all_const, beq_self_eq_true, eq_self, decide_true, iD_len, in_iD, in_iDL, filter_tt, map_idd, atI_zero, blsOf_map, intsOf_map, all_map_id, cut_tail, is_int_n, isnot_int_n, is_bl_n, isnot_bl_n, is_str_n, isnot_str_n, is_tup_n, isnot_tup_n, is_lst_n, isnot_lst_n, is_kl_n, isnot_kl_n, is_non_n, isnot_non_n, is_bl_bl, seq_ref0, lst_ref0, own_ref0, truth_ref0, ix_ref0, app_ref0, tuple_ref0, len_ref0, set_ref0, isSome_some, atI_last, ix3_0, ix3_1, ix3_2, at3_1, at3_2, isi_non_int, isi_non_bl, isi_non_str, isi_non_tup, isi_non_lst, isi_non_lst_tup, isi_non_bl_str, isi_bl_int, isi_bl_bl, isi_bl_str, isi_bl_tup, isi_bl_lst, isi_bl_lst_tup, isi_bl_bl_str, isi_int_int, isi_int_bl, isi_int_str, isi_int_tup, isi_int_lst, isi_int_lst_tup, isi_int_bl_str, isi_str_int, isi_str_bl, isi_str_str, isi_str_tup, isi_str_lst, isi_str_lst_tup, isi_str_bl_str, isi_tup_int, isi_tup_bl, isi_tup_str, isi_tup_tup, isi_tup_lst, isi_tup_lst_tup, isi_tup_bl_str, isi_lst_int, isi_lst_bl, isi_lst_str, isi_lst_tup, isi_lst_lst, isi_lst_lst_tup, isi_lst_bl_str, isi_kl_int, isi_kl_bl, isi_kl_str, isi_kl_tup, isi_kl_lst, isi_kl_lst_tup, isi_kl_bl_str, endD_rt, endD_nx, seq_tupD, seq_lstD, mm_int, p0, p1, p2, p3, p4, p5]
theorem s5 {st : Store} {x4 x5 x6 x8 x11 x12 x13 x14 : Option D} : evS (C (n + 5)) (nthS b32 5) [some (.ref 0), some (.tup (iD ks)), some (.int (ks.length : Nat)), some (.lst [.tup (iD (coverR ks row)), .tup (iD (headR ks row)), .tup (iD (coverR ks row)), .tup (iD (coverR ks row)), .tup (iD (headR ks row))]), x4, x5, x6, some (.tup (iD row)), x8, some (.tup (iD (coverR ks row))), some (.tup (iD (headR ks row))), x11, x12, x13, x14] st =
    .nx [some (.ref 0), some (.tup (iD ks)), some (.int (ks.length : Nat)), some (.lst [.tup (iD (coverR ks row)), .tup (iD (headR ks row)), .tup (iD (coverR ks row)), .tup (iD (coverR ks row)), .tup (iD (headR ks row))]), x4, x5, x6, some (.tup (iD row)), x8, some (.tup (iD (coverR ks row))), some (.tup (iD (headR ks row))), x11, x12, x13, x14] st := by
  have l1 : (coverR ks row).length < 1000 := by have := row_len (cover_ok (ks := ks) (row := row)); omega
  have l2 : (headR ks row).length < 1000 := by have := row_len (head_ok (ks := ks) hr.2); omega
  have p : callN (tblOf tbl) (cnOf cis) 1000 (n + 5) 26 [.lst [.tup (iD (coverR ks row)), .tup (iD (headR ks row)), .tup (iD (coverR ks row)), .tup (iD (coverR ks row)), .tup (iD (headR ks row))], .lst [.tup (iD (coverR ks row)), .tup (iD (headR ks row)), .tup (iD (coverR ks row)), .tup (iD (coverR ks row)), .tup (iD (headR ks row))]] st = .ok (.bl true) st := by
    rw [show n + 5 = 2 + (n + 2) + 1 by omega]
    refine e_same 2 (n + 2) _ st ?_
    show (decide (5 < 1000) && (okS 1 _ && (okS 1 _ && (okS 1 _ && (okS 1 _ && (okS 1 _ && true)))))) = true
    rw [okS_iD l1, okS_iD l2]
    rfl
  simp only [b32, nthS, runB, ev_0A, ev_1A, ev_2A, ev_3A, ev_4A, ev_5A, ev_6A, ev_7A, ev_8A, ev_9A, ev_10A, ev_11A, ev_12A, ev_13A, ev_14A, ev_15A, ev_16A, ev_17A, ev_18A, ev_19A, ev_20A, ev_21A, evs_0A, evs_1A, evO_0A, evO_1A, evT_0A, evT_1A, evT_2A, evT_3A, evT_4A, evT_5A, evT_6A, evT_7A, evT_8A, evT_9A, evT_10A, evT_11A, evT_12A, evTs_0A, evTs_1A, evI_0A, evI_1A, evI_2A, evI_3A, evI_4A, evG_0A, evG_1A, evG_2A, evS_0A, evS_1A, evS_2A, evS_3A, evS_4A, evS_5A, evS_6A, evS_7A, evS_8A, evS_9A, evS_10A, bindO_ok, bindO_exn, bindO_bad, Res.bind_ok, Res.bind_exn, Res.bind_bad, Res.bindN_ok, optR_some, K0.d, EC, setN, setNs, wipeR, List.map_cons, List.map_nil, List.set_cons_zero, List.set_cons_succ, List.getElem?_cons_zero, List.getElem?_cons_succ, List.cons_append, List.nil_append, List.length_cons, List.length_nil, Option.map_some, Option.map_none, Nat.reduceAdd, Nat.reduceSub, Nat.reduceLeDiff, if_true, if_false, Bool.false_eq_true, List.replicate, evB_nil, evB_cons, seqO_nx, seqO_rt, seqO_exn, endD_exn, cmp_eq_int, cmp_ne_int, cmp_eq_bl, cmp_ne_bl, Bool.not_true, Bool.not_false, List.filterMap_cons, List.filterMap_nil, truth_bl, truth_int, truth_non, truth_tup, truth_lst, cmp_lt, cmp_le, cmp_gt, cmp_ge, cmp_in, cmp_inL, cmp_notin, ix_tup, ix_lst, ix_kl, add_int_true, sub_int_true, add_tup_true, pow_int_true, mul_tup_true, add_lst_true, sl_tup_true, sl_lst_true, sl_kl_true, len_tup_true, tuple_tup_true, list_tup_true, len_lst_true, tuple_lst_true, list_lst_true, len_kl_true, tuple_kl_true, list_kl_true, tuple_ref_true, int_int_true, int_bl_true, abs_int_true, all_lst_true, any_lst_true, sum_lst_true, max_lst_true, add_int_false, sub_int_false, add_tup_false, pow_int_false, mul_tup_false, add_lst_false, sl_tup_false, sl_lst_false, sl_kl_false, len_tup_false, tuple_tup_false, list_tup_false, len_lst_false, tuple_lst_false, list_lst_false, len_kl_false, tuple_kl_false, list_kl_false, tuple_ref_false, int_int_false, int_bl_false, abs_int_false, all_lst_false, any_lst_false, sum_lst_false, max_lst_false, newL_f, newL_t, sv_tup, sv_lst, sv_kl, se_tup, se_lst, se_kl, sz_tup, sz_lst, all_const, beq_self_eq_true, eq_self, decide_true, iD_len, in_iD, in_iDL, filter_tt, map_idd, atI_zero, blsOf_map, intsOf_map, all_map_id, cut_tail, is_int_n, isnot_int_n, is_bl_n, isnot_bl_n, is_str_n, isnot_str_n, is_tup_n, isnot_tup_n, is_lst_n, isnot_lst_n, is_kl_n, isnot_kl_n, is_non_n, isnot_non_n, is_bl_bl, seq_ref0, lst_ref0, own_ref0, truth_ref0, ix_ref0, app_ref0, tuple_ref0, len_ref0, set_ref0, isSome_some, atI_last, ix3_0, ix3_1, ix3_2, at3_1, at3_2, isi_non_int, isi_non_bl, isi_non_str, isi_non_tup, isi_non_lst, isi_non_lst_tup, isi_non_bl_str, isi_bl_int, isi_bl_bl, isi_bl_str, isi_bl_tup, isi_bl_lst, isi_bl_lst_tup, isi_bl_bl_str, isi_int_int, isi_int_bl, isi_int_str, isi_int_tup, isi_int_lst, isi_int_lst_tup, isi_int_bl_str, isi_str_int, isi_str_bl, isi_str_str, isi_str_tup, isi_str_lst, isi_str_lst_tup, isi_str_bl_str, isi_tup_int, isi_tup_bl, isi_tup_str, isi_tup_tup, isi_tup_lst, isi_tup_lst_tup, isi_tup_bl_str, isi_lst_int, isi_lst_bl, isi_lst_str, isi_lst_tup, isi_lst_lst, isi_lst_lst_tup, isi_lst_bl_str, isi_kl_int, isi_kl_bl, isi_kl_str, isi_kl_tup, isi_kl_lst, isi_kl_lst_tup, isi_kl_bl_str, endD_rt, endD_nx, seq_tupD, seq_lstD, mm_int, p]
include hf
theorem s67 {st : Store} {x3 x4 x5 x6 x11 x12 x13 x14 : Option D} : ∃ y4 : Option D, evS (C (n + 5)) (nthS b32 6) [some (.ref 0), some (.tup (iD ks)), some (.int (ks.length : Nat)), x3, x4, x5, x6, some (.tup (iD row)), some (.tup (iD far)), some (.tup (iD (coverR ks row))), some (.tup (iD (headR ks row))), x11, x12, x13, x14] st =
    .nx [some (.ref 0), some (.tup (iD ks)), some (.int (ks.length : Nat)), x3, y4, x5, x6, some (.tup (iD row)), some (.tup (iD far)), some (.tup (iD (coverR ks row))), some (.tup (iD (headR ks row))), x11, x12, x13, x14] st ∧
    evS (C (n + 5)) (nthS b32 7) [some (.ref 0), some (.tup (iD ks)), some (.int (ks.length : Nat)), x3, y4, x5, x6, some (.tup (iD row)), some (.tup (iD far)), some (.tup (iD (coverR ks row))), some (.tup (iD (headR ks row))), x11, x12, x13, x14] st =
    .nx [some (.ref 0), some (.tup (iD ks)), some (.int (ks.length : Nat)), x3, y4, x5, x6, some (.tup (iD row)), some (.tup (iD far)), some (.tup (iD (coverR ks row))), some (.tup (iD (headR ks row))), x11, x12, x13, x14] st := by
  have r1 := row_len hr
  have r2 := row_len hf
  have r3 := row_len (cover_ok (ks := ks) (row := row))
  have r4 := row_len (cover_ok (ks := ks) (row := far))
  have hb : rowOk ks (sset (row ++ far)) := ⟨sset_sorted _, fun x hx => by
    rcases List.mem_append.mp ((sset_mem x _).mp hx) with hx | hx
    · exact hr.2 x hx
    · exact hf.2 x hx⟩
  refine ⟨some (.tup (iD (sset (row ++ far)))), ?_, ?_⟩
  · have a1 := addI row far (by omega)
    have p1 : ∀ st : Store, callN (tblOf tbl) (cnOf cis) 1000 (n + 5) 29 [.tup (iD (row ++ far))] st = .ok (.tup (iD (sset (row ++ far)))) st := fun st => e_lset (n := n + 4) rfl (by rw [List.length_append]; omega)
    simp only [b32, nthS, runB, ev_0A, ev_1A, ev_2A, ev_3A, ev_4A, ev_5A, ev_6A, ev_7A, ev_8A, ev_9A, ev_10A, ev_11A, ev_12A, ev_13A, ev_14A, ev_15A, ev_16A, ev_17A, ev_18A, ev_19A, ev_20A, ev_21A, evs_0A, evs_1A, evO_0A, evO_1A, evT_0A, evT_1A, evT_2A, evT_3A, evT_4A, evT_5A, evT_6A, evT_7A, evT_8A, evT_9A, evT_10A, evT_11A, evT_12A, evTs_0A, evTs_1A, evI_0A, evI_1A, evI_2A, evI_3A, evI_4A, evG_0A, evG_1A, evG_2A, evS_0A, evS_1A, evS_2A, evS_3A, evS_4A, evS_5A, evS_6A, evS_7A, evS_8A, evS_9A, evS_10A, bindO_ok, bindO_exn, bindO_bad, Res.bind_ok, Res.bind_exn, Res.bind_bad, Res.bindN_ok, optR_some, K0.d, EC, setN, setNs, wipeR, List.map_cons, List.map_nil, List.set_cons_zero, List.set_cons_succ, List.getElem?_cons_zero, List.getElem?_cons_succ, List.cons_append, List.nil_append, List.length_cons, List.length_nil, Option.map_some, Option.map_none, Nat.reduceAdd, Nat.reduceSub, Nat.reduceLeDiff, if_true, if_false, Bool.false_eq_true, List.replicate, evB_nil, evB_cons, seqO_nx, seqO_rt, seqO_exn, endD_exn, cmp_eq_int, cmp_ne_int, cmp_eq_bl, cmp_ne_bl, Bool.not_true, Bool.not_false, List.filterMap_cons, List.filterMap_nil, truth_bl, truth_int, truth_non, truth_tup, truth_lst, cmp_lt, cmp_le, cmp_gt, cmp_ge, cmp_in, cmp_inL, cmp_notin, ix_tup, ix_lst, ix_kl, add_int_true, sub_int_true, pow_int_true, sl_tup_true, sl_lst_true, sl_kl_true, len_tup_true, tuple_tup_true, list_tup_true, len_lst_true, tuple_lst_true, list_lst_true, len_kl_true, tuple_kl_true, list_kl_true, tuple_ref_true, int_int_true, int_bl_true, abs_int_true, all_lst_true, any_lst_true, sum_lst_true, max_lst_true, add_int_false, sub_int_false, pow_int_false, sl_tup_false, sl_lst_false, sl_kl_false, len_tup_false, tuple_tup_false, list_tup_false, len_lst_false, tuple_lst_false, list_lst_false, len_kl_false, tuple_kl_false, list_kl_false, tuple_ref_false, int_int_false, int_bl_false, abs_int_false, all_lst_false, any_lst_false, sum_lst_false, max_lst_false, newL_f, newL_t, sv_tup, sv_lst, sv_kl, se_tup, se_lst, se_kl, sz_tup, sz_lst, all_const, beq_self_eq_true, eq_self, decide_true, iD_len, in_iD, in_iDL, filter_tt, map_idd, atI_zero, blsOf_map, intsOf_map, all_map_id, cut_tail, is_int_n, isnot_int_n, is_bl_n, isnot_bl_n, is_str_n, isnot_str_n, is_tup_n, isnot_tup_n, is_lst_n, isnot_lst_n, is_kl_n, isnot_kl_n, is_non_n, isnot_non_n, is_bl_bl, seq_ref0, lst_ref0, own_ref0, truth_ref0, ix_ref0, app_ref0, tuple_ref0, len_ref0, set_ref0, isSome_some, atI_last, ix3_0, ix3_1, ix3_2, at3_1, at3_2, isi_non_int, isi_non_bl, isi_non_str, isi_non_tup, isi_non_lst, isi_non_lst_tup, isi_non_bl_str, isi_bl_int, isi_bl_bl, isi_bl_str, isi_bl_tup, isi_bl_lst, isi_bl_lst_tup, isi_bl_bl_str, isi_int_int, isi_int_bl, isi_int_str, isi_int_tup, isi_int_lst, isi_int_lst_tup, isi_int_bl_str, isi_str_int, isi_str_bl, isi_str_str, isi_str_tup, isi_str_lst, isi_str_lst_tup, isi_str_bl_str, isi_tup_int, isi_tup_bl, isi_tup_str, isi_tup_tup, isi_tup_lst, isi_tup_lst_tup, isi_tup_bl_str, isi_lst_int, isi_lst_bl, isi_lst_str, isi_lst_tup, isi_lst_lst, isi_lst_lst_tup, isi_lst_bl_str, isi_kl_int, isi_kl_bl, isi_kl_str, isi_kl_tup, isi_kl_lst, isi_kl_lst_tup, isi_kl_bl_str, endD_rt, endD_nx, seq_tupD, seq_lstD, mm_int, a1, p1]
  · have p1 : callN (tblOf tbl) (cnOf cis) 1000 (n + 5) 19 [.tup (iD ks), .tup (iD (sset (row ++ far)))] st = .ok (.tup (iD (sset (coverR ks row ++ coverR ks far)))) st := by
      rw [← cover_both h]
      exact e_covered (.inl rfl) (.inl rfl) h h7 hb
    have p2 : callN (tblOf tbl) (cnOf cis) 1000 (n + 5) 30 [.tup (iD ks), .tup (iD far)] st = .ok (.tup (iD (coverR ks far))) st := by
      rw [← lcover_eq]
      exact e_lcover (n := n + 3) h
    have a1 := addI (coverR ks row) (coverR ks far) (by omega)
    have p3 : callN (tblOf tbl) (cnOf cis) 1000 (n + 5) 29 [.tup (iD (coverR ks row ++ coverR ks far))] st = .ok (.tup (iD (sset (coverR ks row ++ coverR ks far)))) st := e_lset (n := n + 4) rfl (by rw [List.length_append]; omega)
    have r5 := row_len (cover_ok (ks := ks) (row := sset (row ++ far)))
    rw [cover_both h] at r5
    have p4 : callN (tblOf tbl) (cnOf cis) 1000 (n + 5) 26 [.tup (iD (sset (coverR ks row ++ coverR ks far))), .tup (iD (sset (coverR ks row ++ coverR ks far)))] st = .ok (.bl true) st := same_tup (by omega)
    simp only [b32, nthS, runB, ev_0A, ev_1A, ev_2A, ev_3A, ev_4A, ev_5A, ev_6A, ev_7A, ev_8A, ev_9A, ev_10A, ev_11A, ev_12A, ev_13A, ev_14A, ev_15A, ev_16A, ev_17A, ev_18A, ev_19A, ev_20A, ev_21A, evs_0A, evs_1A, evO_0A, evO_1A, evT_0A, evT_1A, evT_2A, evT_3A, evT_4A, evT_5A, evT_6A, evT_7A, evT_8A, evT_9A, evT_10A, evT_11A, evT_12A, evTs_0A, evTs_1A, evI_0A, evI_1A, evI_2A, evI_3A, evI_4A, evG_0A, evG_1A, evG_2A, evS_0A, evS_1A, evS_2A, evS_3A, evS_4A, evS_5A, evS_6A, evS_7A, evS_8A, evS_9A, evS_10A, bindO_ok, bindO_exn, bindO_bad, Res.bind_ok, Res.bind_exn, Res.bind_bad, Res.bindN_ok, optR_some, K0.d, EC, setN, setNs, wipeR, List.map_cons, List.map_nil, List.set_cons_zero, List.set_cons_succ, List.getElem?_cons_zero, List.getElem?_cons_succ, List.cons_append, List.nil_append, List.length_cons, List.length_nil, Option.map_some, Option.map_none, Nat.reduceAdd, Nat.reduceSub, Nat.reduceLeDiff, if_true, if_false, Bool.false_eq_true, List.replicate, evB_nil, evB_cons, seqO_nx, seqO_rt, seqO_exn, endD_exn, cmp_eq_int, cmp_ne_int, cmp_eq_bl, cmp_ne_bl, Bool.not_true, Bool.not_false, List.filterMap_cons, List.filterMap_nil, truth_bl, truth_int, truth_non, truth_tup, truth_lst, cmp_lt, cmp_le, cmp_gt, cmp_ge, cmp_in, cmp_inL, cmp_notin, ix_tup, ix_lst, ix_kl, add_int_true, sub_int_true, pow_int_true, sl_tup_true, sl_lst_true, sl_kl_true, len_tup_true, tuple_tup_true, list_tup_true, len_lst_true, tuple_lst_true, list_lst_true, len_kl_true, tuple_kl_true, list_kl_true, tuple_ref_true, int_int_true, int_bl_true, abs_int_true, all_lst_true, any_lst_true, sum_lst_true, max_lst_true, add_int_false, sub_int_false, pow_int_false, sl_tup_false, sl_lst_false, sl_kl_false, len_tup_false, tuple_tup_false, list_tup_false, len_lst_false, tuple_lst_false, list_lst_false, len_kl_false, tuple_kl_false, list_kl_false, tuple_ref_false, int_int_false, int_bl_false, abs_int_false, all_lst_false, any_lst_false, sum_lst_false, max_lst_false, newL_f, newL_t, sv_tup, sv_lst, sv_kl, se_tup, se_lst, se_kl, sz_tup, sz_lst, all_const, beq_self_eq_true, eq_self, decide_true, iD_len, in_iD, in_iDL, filter_tt, map_idd, atI_zero, blsOf_map, intsOf_map, all_map_id, cut_tail, is_int_n, isnot_int_n, is_bl_n, isnot_bl_n, is_str_n, isnot_str_n, is_tup_n, isnot_tup_n, is_lst_n, isnot_lst_n, is_kl_n, isnot_kl_n, is_non_n, isnot_non_n, is_bl_bl, seq_ref0, lst_ref0, own_ref0, truth_ref0, ix_ref0, app_ref0, tuple_ref0, len_ref0, set_ref0, isSome_some, atI_last, ix3_0, ix3_1, ix3_2, at3_1, at3_2, isi_non_int, isi_non_bl, isi_non_str, isi_non_tup, isi_non_lst, isi_non_lst_tup, isi_non_bl_str, isi_bl_int, isi_bl_bl, isi_bl_str, isi_bl_tup, isi_bl_lst, isi_bl_lst_tup, isi_bl_bl_str, isi_int_int, isi_int_bl, isi_int_str, isi_int_tup, isi_int_lst, isi_int_lst_tup, isi_int_bl_str, isi_str_int, isi_str_bl, isi_str_str, isi_str_tup, isi_str_lst, isi_str_lst_tup, isi_str_bl_str, isi_tup_int, isi_tup_bl, isi_tup_str, isi_tup_tup, isi_tup_lst, isi_tup_lst_tup, isi_tup_bl_str, isi_lst_int, isi_lst_bl, isi_lst_str, isi_lst_tup, isi_lst_lst, isi_lst_lst_tup, isi_lst_bl_str, isi_kl_int, isi_kl_bl, isi_kl_str, isi_kl_tup, isi_kl_lst, isi_kl_lst_tup, isi_kl_bl_str, endD_rt, endD_nx, seq_tupD, seq_lstD, mm_int, p1, p2, p3, p4, a1]
omit hf
theorem less_ok {k : Int} : rowOk ks (row.filter fun x => !decide (x = k)) := ⟨hr.1.filter _, fun x hx => hr.2 x (List.mem_filter.mp hx).1⟩
theorem s8 {st : Store} {x3 x4 x5 x6 x8 x11 x12 x13 x14 : Option D} : ∃ y5 y11 : Option D, evS (C (n + 5)) (nthS b32 8) [some (.ref 0), some (.tup (iD ks)), some (.int (ks.length : Nat)), x3, x4, x5, x6, some (.tup (iD row)), x8, some (.tup (iD (coverR ks row))), some (.tup (iD (headR ks row))), x11, x12, x13, x14] st =
    .nx [some (.ref 0), some (.tup (iD ks)), some (.int (ks.length : Nat)), x3, x4, y5, x6, some (.tup (iD row)), x8, some (.tup (iD (coverR ks row))), some (.tup (iD (headR ks row))), y11, x12, x13, x14] st := by
  have r1 := row_len hr
  have r2 := row_len (head_ok (ks := ks) hr.2)
  have loop := for_inv (src := .seq (iD (headR ks row))) (tg := evG (C (n + 5)) (.name 5)) (N := (headR ks row).length)
    (tb := evB (C (n + 5)) (.cons (.asg (.name 11) (.bcall false .tuple (.lc false (.var 6) (.name 6) (.val (.var 7)) (.cons (.cmp .ne (.var 6) (.var 5)) .nil) [6]))) (.cons (.ite (.or (.cmp .eq (.call 19 (.cons (.var 1) (.cons (.var 11) .nil))) (.var 9)) (.cmp .in_ (.var 5) (.call 19 (.cons (.var 1) (.cons (.var 11) .nil))))) (.cons (.ret (.con (.bl false))) .nil) .nil) .nil)))
    (fun i ρ St => St = st ∧ ∃ y5 y11 : Option D, ρ = [some (.ref 0), some (.tup (iD ks)), some (.int (ks.length : Nat)), x3, x4, y5, x6, some (.tup (iD row)), x8, some (.tup (iD (coverR ks row))), some (.tup (iD (headR ks row))), y11, x12, x13, x14])
    (fun o => ∃ y5 y11 : Option D, o = .nx [some (.ref 0), some (.tup (iD ks)), some (.int (ks.length : Nat)), x3, x4, y5, x6, some (.tup (iD row)), x8, some (.tup (iD (coverR ks row))), some (.tup (iD (headR ks row))), y11, x12, x13, x14] st)
    (by
      rintro i ρ St hi ⟨rfl, y5, y11, rfl⟩
      have z : (headR ks row)[i]? = some (headR ks row)[i] := List.getElem?_eq_getElem hi
      have hz : (headR ks row)[i] ∈ headR ks row := List.getElem_mem hi
      generalize hw : (headR ks row)[i] = w at *
      obtain ⟨n1, n2⟩ := less_head h hr.2 hz
      refine ⟨.int w, [some (.ref 0), some (.tup (iD ks)), some (.int (ks.length : Nat)), x3, x4, some (.int w), x6, some (.tup (iD row)), x8, some (.tup (iD (coverR ks row))), some (.tup (iD (headR ks row))), y11, x12, x13, x14], _, ?_, rfl, ?_⟩
      · rw [at_seq, z]
        rfl
      · have l1 := lc_pureA (src := .seq (iD row)) (tg := evG (C (n + 5)) (.name 6)) (tt := evTs (C (n + 5)) (.cons (.cmp .ne (.var 6) (.var 5)) .nil)) (te := ev (C (n + 5)) (.var 6)) (ρ := [some (.ref 0), some (.tup (iD ks)), some (.int (ks.length : Nat)), x3, x4, some (.int w), none, some (.tup (iD row)), x8, some (.tup (iD (coverR ks row))), some (.tup (iD (headR ks row))), y11, x12, x13, x14]) (S := St) (w := 1000)
          row D.int (fun x => !decide (x = w)) D.int (fun x => [some (.ref 0), some (.tup (iD ks)), some (.int (ks.length : Nat)), x3, x4, some (.int w), some (.int x), some (.tup (iD row)), x8, some (.tup (iD (coverR ks row))), some (.tup (iD (headR ks row))), y11, x12, x13, x14]) (fun i => at_seq i) (fun x hx => ⟨rfl, by
            simp only [runB, ev_0A, ev_1A, ev_2A, ev_3A, ev_4A, ev_5A, ev_6A, ev_7A, ev_8A, ev_9A, ev_10A, ev_11A, ev_12A, ev_13A, ev_14A, ev_15A, ev_16A, ev_17A, ev_18A, ev_19A, ev_20A, ev_21A, evs_0A, evs_1A, evO_0A, evO_1A, evT_0A, evT_1A, evT_2A, evT_3A, evT_4A, evT_5A, evT_6A, evT_7A, evT_8A, evT_9A, evT_10A, evT_11A, evT_12A, evTs_0A, evTs_1A, evI_0A, evI_1A, evI_2A, evI_3A, evI_4A, evG_0A, evG_1A, evG_2A, evS_0A, evS_1A, evS_2A, evS_3A, evS_4A, evS_5A, evS_6A, evS_7A, evS_8A, evS_9A, evS_10A, bindO_ok, bindO_exn, bindO_bad, Res.bind_ok, Res.bind_exn, Res.bind_bad, Res.bindN_ok, optR_some, K0.d, EC, setN, setNs, wipeR, List.map_cons, List.map_nil, List.set_cons_zero, List.set_cons_succ, List.getElem?_cons_zero, List.getElem?_cons_succ, List.cons_append, List.nil_append, List.length_cons, List.length_nil, Option.map_some, Option.map_none, Nat.reduceAdd, Nat.reduceSub, Nat.reduceLeDiff, if_true, if_false, Bool.false_eq_true, List.replicate, evB_nil, evB_cons, seqO_nx, seqO_rt, seqO_exn, endD_exn, cmp_eq_int, cmp_ne_int, cmp_eq_bl, cmp_ne_bl, Bool.not_true, Bool.not_false, List.filterMap_cons, List.filterMap_nil, truth_bl, truth_int, truth_non, truth_tup, truth_lst, cmp_lt, cmp_le, cmp_gt, cmp_ge, cmp_in, cmp_inL, cmp_notin, ix_tup, ix_lst, ix_kl, add_int_true, sub_int_true, add_tup_true, pow_int_true, mul_tup_true, add_lst_true, sl_tup_true, sl_lst_true, sl_kl_true, len_tup_true, tuple_tup_true, list_tup_true, len_lst_true, tuple_lst_true, list_lst_true, len_kl_true, tuple_kl_true, list_kl_true, tuple_ref_true, int_int_true, int_bl_true, abs_int_true, all_lst_true, any_lst_true, sum_lst_true, max_lst_true, add_int_false, sub_int_false, add_tup_false, pow_int_false, mul_tup_false, add_lst_false, sl_tup_false, sl_lst_false, sl_kl_false, len_tup_false, tuple_tup_false, list_tup_false, len_lst_false, tuple_lst_false, list_lst_false, len_kl_false, tuple_kl_false, list_kl_false, tuple_ref_false, int_int_false, int_bl_false, abs_int_false, all_lst_false, any_lst_false, sum_lst_false, max_lst_false, newL_f, newL_t, sv_tup, sv_lst, sv_kl, se_tup, se_lst, se_kl, sz_tup, sz_lst, all_const, beq_self_eq_true, eq_self, decide_true, iD_len, in_iD, in_iDL, filter_tt, map_idd, atI_zero, blsOf_map, intsOf_map, all_map_id, cut_tail, is_int_n, isnot_int_n, is_bl_n, isnot_bl_n, is_str_n, isnot_str_n, is_tup_n, isnot_tup_n, is_lst_n, isnot_lst_n, is_kl_n, isnot_kl_n, is_non_n, isnot_non_n, is_bl_bl, seq_ref0, lst_ref0, own_ref0, truth_ref0, ix_ref0, app_ref0, tuple_ref0, len_ref0, set_ref0, isSome_some, atI_last, ix3_0, ix3_1, ix3_2, at3_1, at3_2, isi_non_int, isi_non_bl, isi_non_str, isi_non_tup, isi_non_lst, isi_non_lst_tup, isi_non_bl_str, isi_bl_int, isi_bl_bl, isi_bl_str, isi_bl_tup, isi_bl_lst, isi_bl_lst_tup, isi_bl_bl_str, isi_int_int, isi_int_bl, isi_int_str, isi_int_tup, isi_int_lst, isi_int_lst_tup, isi_int_bl_str, isi_str_int, isi_str_bl, isi_str_str, isi_str_tup, isi_str_lst, isi_str_lst_tup, isi_str_bl_str, isi_tup_int, isi_tup_bl, isi_tup_str, isi_tup_tup, isi_tup_lst, isi_tup_lst_tup, isi_tup_bl_str, isi_lst_int, isi_lst_bl, isi_lst_str, isi_lst_tup, isi_lst_lst, isi_lst_lst_tup, isi_lst_bl_str, isi_kl_int, isi_kl_bl, isi_kl_str, isi_kl_tup, isi_kl_lst, isi_kl_lst_tup, isi_kl_bl_str, endD_rt, endD_nx, seq_tupD, seq_lstD, mm_int]
            cases decide (x = w) <;> rfl, fun _ => rfl⟩) (by omega)
        have ei : ((row.filter fun x => !decide (x = w)).map D.int) = iD (row.filter fun x => !decide (x = w)) := rfl
        rw [ei] at l1
        have p1 : ∀ S : Store, callN (tblOf tbl) (cnOf cis) 1000 (n + 5) 19 [.tup (iD ks), .tup (iD (row.filter fun x => !decide (x = w)))] S = .ok (.tup (iD (coverR ks (row.filter fun x => !decide (x = w))))) S := fun S => e_covered (.inl rfl) (.inl rfl) h h7 (less_ok h h7 hr)
        simp only [runB, ev_0A, ev_1A, ev_2A, ev_3A, ev_4A, ev_5A, ev_6A, ev_7A, ev_8A, ev_9A, ev_10A, ev_11A, ev_12A, ev_13A, ev_14A, ev_15A, ev_16A, ev_17A, ev_18A, ev_19A, ev_20A, ev_21A, evs_0A, evs_1A, evO_0A, evO_1A, evT_0A, evT_1A, evT_2A, evT_3A, evT_4A, evT_5A, evT_6A, evT_7A, evT_8A, evT_9A, evT_10A, evT_11A, evT_12A, evTs_0A, evTs_1A, evI_0A, evI_1A, evI_2A, evI_3A, evI_4A, evG_0A, evG_1A, evG_2A, evS_0A, evS_1A, evS_2A, evS_3A, evS_4A, evS_5A, evS_6A, evS_7A, evS_8A, evS_9A, evS_10A, bindO_ok, bindO_exn, bindO_bad, Res.bind_ok, Res.bind_exn, Res.bind_bad, Res.bindN_ok, optR_some, K0.d, EC, setN, setNs, wipeR, List.map_cons, List.map_nil, List.set_cons_zero, List.set_cons_succ, List.getElem?_cons_zero, List.getElem?_cons_succ, List.cons_append, List.nil_append, List.length_cons, List.length_nil, Option.map_some, Option.map_none, Nat.reduceAdd, Nat.reduceSub, Nat.reduceLeDiff, if_true, if_false, Bool.false_eq_true, List.replicate, evB_nil, evB_cons, seqO_nx, seqO_rt, seqO_exn, endD_exn, cmp_eq_int, cmp_ne_int, cmp_eq_bl, cmp_ne_bl, Bool.not_true, Bool.not_false, List.filterMap_cons, List.filterMap_nil, truth_bl, truth_int, truth_non, truth_tup, truth_lst, cmp_lt, cmp_le, cmp_gt, cmp_ge, cmp_in, cmp_inL, cmp_notin, ix_tup, ix_lst, ix_kl, add_int_true, sub_int_true, add_tup_true, pow_int_true, mul_tup_true, add_lst_true, sl_tup_true, sl_lst_true, sl_kl_true, len_tup_true, tuple_tup_true, list_tup_true, len_lst_true, tuple_lst_true, list_lst_true, len_kl_true, tuple_kl_true, list_kl_true, tuple_ref_true, int_int_true, int_bl_true, abs_int_true, all_lst_true, any_lst_true, sum_lst_true, max_lst_true, add_int_false, sub_int_false, add_tup_false, pow_int_false, mul_tup_false, add_lst_false, sl_tup_false, sl_lst_false, sl_kl_false, len_tup_false, tuple_tup_false, list_tup_false, len_lst_false, tuple_lst_false, list_lst_false, len_kl_false, tuple_kl_false, list_kl_false, tuple_ref_false, int_int_false, int_bl_false, abs_int_false, all_lst_false, any_lst_false, sum_lst_false, max_lst_false, newL_f, newL_t, sv_tup, sv_lst, sv_kl, se_tup, se_lst, se_kl, sz_tup, sz_lst, all_const, beq_self_eq_true, eq_self, decide_true, iD_len, in_iD, in_iDL, filter_tt, map_idd, atI_zero, blsOf_map, intsOf_map, all_map_id, cut_tail, is_int_n, isnot_int_n, is_bl_n, isnot_bl_n, is_str_n, isnot_str_n, is_tup_n, isnot_tup_n, is_lst_n, isnot_lst_n, is_kl_n, isnot_kl_n, is_non_n, isnot_non_n, is_bl_bl, seq_ref0, lst_ref0, own_ref0, truth_ref0, ix_ref0, app_ref0, tuple_ref0, len_ref0, set_ref0, isSome_some, atI_last, ix3_0, ix3_1, ix3_2, at3_1, at3_2, isi_non_int, isi_non_bl, isi_non_str, isi_non_tup, isi_non_lst, isi_non_lst_tup, isi_non_bl_str, isi_bl_int, isi_bl_bl, isi_bl_str, isi_bl_tup, isi_bl_lst, isi_bl_lst_tup, isi_bl_bl_str, isi_int_int, isi_int_bl, isi_int_str, isi_int_tup, isi_int_lst, isi_int_lst_tup, isi_int_bl_str, isi_str_int, isi_str_bl, isi_str_str, isi_str_tup, isi_str_lst, isi_str_lst_tup, isi_str_bl_str, isi_tup_int, isi_tup_bl, isi_tup_str, isi_tup_tup, isi_tup_lst, isi_tup_lst_tup, isi_tup_bl_str, isi_lst_int, isi_lst_bl, isi_lst_str, isi_lst_tup, isi_lst_lst, isi_lst_lst_tup, isi_lst_bl_str, isi_kl_int, isi_kl_bl, isi_kl_str, isi_kl_tup, isi_kl_lst, isi_kl_lst_tup, isi_kl_bl_str, endD_rt, endD_nx, seq_tupD, seq_lstD, mm_int, l1, p1, eq_tupI, decide_eq_false n2, decide_eq_false n1]
        exact ⟨trivial, _, _, rfl⟩)
    (by
      rintro ρ St ⟨rfl, y5, y11, rfl⟩
      refine ⟨?_, y5, y11, rfl⟩
      rw [at_seq, List.getElem?_eq_none (Nat.le_refl _)]
      rfl)
    1000 0 [some (.ref 0), some (.tup (iD ks)), some (.int (ks.length : Nat)), x3, x4, x5, x6, some (.tup (iD row)), x8, some (.tup (iD (coverR ks row))), some (.tup (iD (headR ks row))), x11, x12, x13, x14] st (by omega) (by omega) ⟨rfl, x5, x11, rfl⟩
  obtain ⟨y5, y11, e⟩ := loop
  refine ⟨y5, y11, ?_⟩
  simp only [b32, nthS, runB, ev_0A, ev_1A, ev_2A, ev_3A, ev_4A, ev_5A, ev_6A, ev_7A, ev_8A, ev_9A, ev_10A, ev_11A, ev_12A, ev_13A, ev_14A, ev_15A, ev_16A, ev_17A, ev_18A, ev_19A, ev_20A, ev_21A, evs_0A, evs_1A, evO_0A, evO_1A, evT_0A, evT_1A, evT_2A, evT_3A, evT_4A, evT_5A, evT_6A, evT_7A, evT_8A, evT_9A, evT_10A, evT_11A, evT_12A, evTs_0A, evTs_1A, evI_0A, evI_1A, evI_2A, evI_3A, evI_4A, evG_0A, evG_1A, evG_2A, evS_0A, evS_1A, evS_2A, evS_3A, evS_4A, evS_5A, evS_6A, evS_7A, evS_8A, evS_9A, evS_10A, bindO_ok, bindO_exn, bindO_bad, Res.bind_ok, Res.bind_exn, Res.bind_bad, Res.bindN_ok, optR_some, K0.d, EC, setN, setNs, wipeR, List.map_cons, List.map_nil, List.set_cons_zero, List.set_cons_succ, List.getElem?_cons_zero, List.getElem?_cons_succ, List.cons_append, List.nil_append, List.length_cons, List.length_nil, Option.map_some, Option.map_none, Nat.reduceAdd, Nat.reduceSub, Nat.reduceLeDiff, if_true, if_false, Bool.false_eq_true, List.replicate, evB_nil, evB_cons, seqO_nx, seqO_rt, seqO_exn, endD_exn, cmp_eq_int, cmp_ne_int, cmp_eq_bl, cmp_ne_bl, Bool.not_true, Bool.not_false, List.filterMap_cons, List.filterMap_nil, truth_bl, truth_int, truth_non, truth_tup, truth_lst, cmp_lt, cmp_le, cmp_gt, cmp_ge, cmp_in, cmp_inL, cmp_notin, ix_tup, ix_lst, ix_kl, add_int_true, sub_int_true, add_tup_true, pow_int_true, mul_tup_true, add_lst_true, sl_tup_true, sl_lst_true, sl_kl_true, len_tup_true, tuple_tup_true, list_tup_true, len_lst_true, tuple_lst_true, list_lst_true, len_kl_true, tuple_kl_true, list_kl_true, tuple_ref_true, int_int_true, int_bl_true, abs_int_true, all_lst_true, any_lst_true, sum_lst_true, max_lst_true, add_int_false, sub_int_false, add_tup_false, pow_int_false, mul_tup_false, add_lst_false, sl_tup_false, sl_lst_false, sl_kl_false, len_tup_false, tuple_tup_false, list_tup_false, len_lst_false, tuple_lst_false, list_lst_false, len_kl_false, tuple_kl_false, list_kl_false, tuple_ref_false, int_int_false, int_bl_false, abs_int_false, all_lst_false, any_lst_false, sum_lst_false, max_lst_false, newL_f, newL_t, sv_tup, sv_lst, sv_kl, se_tup, se_lst, se_kl, sz_tup, sz_lst, all_const, beq_self_eq_true, eq_self, decide_true, iD_len, in_iD, in_iDL, filter_tt, map_idd, atI_zero, blsOf_map, intsOf_map, all_map_id, cut_tail, is_int_n, isnot_int_n, is_bl_n, isnot_bl_n, is_str_n, isnot_str_n, is_tup_n, isnot_tup_n, is_lst_n, isnot_lst_n, is_kl_n, isnot_kl_n, is_non_n, isnot_non_n, is_bl_bl, seq_ref0, lst_ref0, own_ref0, truth_ref0, ix_ref0, app_ref0, tuple_ref0, len_ref0, set_ref0, isSome_some, atI_last, ix3_0, ix3_1, ix3_2, at3_1, at3_2, isi_non_int, isi_non_bl, isi_non_str, isi_non_tup, isi_non_lst, isi_non_lst_tup, isi_non_bl_str, isi_bl_int, isi_bl_bl, isi_bl_str, isi_bl_tup, isi_bl_lst, isi_bl_lst_tup, isi_bl_bl_str, isi_int_int, isi_int_bl, isi_int_str, isi_int_tup, isi_int_lst, isi_int_lst_tup, isi_int_bl_str, isi_str_int, isi_str_bl, isi_str_str, isi_str_tup, isi_str_lst, isi_str_lst_tup, isi_str_bl_str, isi_tup_int, isi_tup_bl, isi_tup_str, isi_tup_tup, isi_tup_lst, isi_tup_lst_tup, isi_tup_bl_str, isi_lst_int, isi_lst_bl, isi_lst_str, isi_lst_tup, isi_lst_lst, isi_lst_lst_tup, isi_lst_bl_str, isi_kl_int, isi_kl_bl, isi_kl_str, isi_kl_tup, isi_kl_lst, isi_kl_lst_tup, isi_kl_bl_str, endD_rt, endD_nx, seq_tupD, seq_lstD, mm_int, e]
theorem s9 {st : Store} {x3 x4 x5 x6 x8 x11 x12 x13 x14 : Option D} : ∃ y6 : Option D, evS (C (n + 5)) (nthS b32 9) [some (.ref 0), some (.tup (iD ks)), some (.int (ks.length : Nat)), x3, x4, x5, x6, some (.tup (iD row)), x8, some (.tup (iD (coverR ks row))), some (.tup (iD (headR ks row))), x11, x12, x13, x14] st =
    .nx [some (.ref 0), some (.tup (iD ks)), some (.int (ks.length : Nat)), x3, x4, x5, y6, some (.tup (iD row)), x8, some (.tup (iD (coverR ks row))), some (.tup (iD (headR ks row))), x11, x12, x13, x14] st := by
  have r1 := row_len hr
  have loop := for_inv (src := .seq (iD row)) (tg := evG (C (n + 5)) (.name 6)) (N := row.length)
    (tb := evB (C (n + 5)) (.cons (.ite (.and (.cmp .notin (.var 6) (.var 10)) (.cmp .ne (.call 19 (.cons (.var 1) (.cons (.bcall false .tuple (.lc false (.var 5) (.name 5) (.val (.var 7)) (.cons (.cmp .ne (.var 5) (.var 6)) .nil) [5])) .nil))) (.var 9))) (.cons (.ret (.con (.bl false))) .nil) .nil) .nil))
    (fun i ρ St => St = st ∧ ∃ y6 : Option D, ρ = [some (.ref 0), some (.tup (iD ks)), some (.int (ks.length : Nat)), x3, x4, x5, y6, some (.tup (iD row)), x8, some (.tup (iD (coverR ks row))), some (.tup (iD (headR ks row))), x11, x12, x13, x14])
    (fun o => ∃ y6 : Option D, o = .nx [some (.ref 0), some (.tup (iD ks)), some (.int (ks.length : Nat)), x3, x4, x5, y6, some (.tup (iD row)), x8, some (.tup (iD (coverR ks row))), some (.tup (iD (headR ks row))), x11, x12, x13, x14] st)
    (by
      rintro i ρ St hi ⟨rfl, y6, rfl⟩
      have z : row[i]? = some row[i] := List.getElem?_eq_getElem hi
      have hz : row[i] ∈ row := List.getElem_mem hi
      generalize hw : row[i] = w at *
      refine ⟨.int w, [some (.ref 0), some (.tup (iD ks)), some (.int (ks.length : Nat)), x3, x4, x5, some (.int w), some (.tup (iD row)), x8, some (.tup (iD (coverR ks row))), some (.tup (iD (headR ks row))), x11, x12, x13, x14], _, ?_, rfl, ?_⟩
      · rw [at_seq, z]
        rfl
      · by_cases hh : w ∈ headR ks row
        · simp only [runB, ev_0A, ev_1A, ev_2A, ev_3A, ev_4A, ev_5A, ev_6A, ev_7A, ev_8A, ev_9A, ev_10A, ev_11A, ev_12A, ev_13A, ev_14A, ev_15A, ev_16A, ev_17A, ev_18A, ev_19A, ev_20A, ev_21A, evs_0A, evs_1A, evO_0A, evO_1A, evT_0A, evT_1A, evT_2A, evT_3A, evT_4A, evT_5A, evT_6A, evT_7A, evT_8A, evT_9A, evT_10A, evT_11A, evT_12A, evTs_0A, evTs_1A, evI_0A, evI_1A, evI_2A, evI_3A, evI_4A, evG_0A, evG_1A, evG_2A, evS_0A, evS_1A, evS_2A, evS_3A, evS_4A, evS_5A, evS_6A, evS_7A, evS_8A, evS_9A, evS_10A, bindO_ok, bindO_exn, bindO_bad, Res.bind_ok, Res.bind_exn, Res.bind_bad, Res.bindN_ok, optR_some, K0.d, EC, setN, setNs, wipeR, List.map_cons, List.map_nil, List.set_cons_zero, List.set_cons_succ, List.getElem?_cons_zero, List.getElem?_cons_succ, List.cons_append, List.nil_append, List.length_cons, List.length_nil, Option.map_some, Option.map_none, Nat.reduceAdd, Nat.reduceSub, Nat.reduceLeDiff, if_true, if_false, Bool.false_eq_true, List.replicate, evB_nil, evB_cons, seqO_nx, seqO_rt, seqO_exn, endD_exn, cmp_eq_int, cmp_ne_int, cmp_eq_bl, cmp_ne_bl, Bool.not_true, Bool.not_false, List.filterMap_cons, List.filterMap_nil, truth_bl, truth_int, truth_non, truth_tup, truth_lst, cmp_lt, cmp_le, cmp_gt, cmp_ge, cmp_in, cmp_inL, cmp_notin, ix_tup, ix_lst, ix_kl, add_int_true, sub_int_true, add_tup_true, pow_int_true, mul_tup_true, add_lst_true, sl_tup_true, sl_lst_true, sl_kl_true, len_tup_true, tuple_tup_true, list_tup_true, len_lst_true, tuple_lst_true, list_lst_true, len_kl_true, tuple_kl_true, list_kl_true, tuple_ref_true, int_int_true, int_bl_true, abs_int_true, all_lst_true, any_lst_true, sum_lst_true, max_lst_true, add_int_false, sub_int_false, add_tup_false, pow_int_false, mul_tup_false, add_lst_false, sl_tup_false, sl_lst_false, sl_kl_false, len_tup_false, tuple_tup_false, list_tup_false, len_lst_false, tuple_lst_false, list_lst_false, len_kl_false, tuple_kl_false, list_kl_false, tuple_ref_false, int_int_false, int_bl_false, abs_int_false, all_lst_false, any_lst_false, sum_lst_false, max_lst_false, newL_f, newL_t, sv_tup, sv_lst, sv_kl, se_tup, se_lst, se_kl, sz_tup, sz_lst, all_const, beq_self_eq_true, eq_self, decide_true, iD_len, in_iD, in_iDL, filter_tt, map_idd, atI_zero, blsOf_map, intsOf_map, all_map_id, cut_tail, is_int_n, isnot_int_n, is_bl_n, isnot_bl_n, is_str_n, isnot_str_n, is_tup_n, isnot_tup_n, is_lst_n, isnot_lst_n, is_kl_n, isnot_kl_n, is_non_n, isnot_non_n, is_bl_bl, seq_ref0, lst_ref0, own_ref0, truth_ref0, ix_ref0, app_ref0, tuple_ref0, len_ref0, set_ref0, isSome_some, atI_last, ix3_0, ix3_1, ix3_2, at3_1, at3_2, isi_non_int, isi_non_bl, isi_non_str, isi_non_tup, isi_non_lst, isi_non_lst_tup, isi_non_bl_str, isi_bl_int, isi_bl_bl, isi_bl_str, isi_bl_tup, isi_bl_lst, isi_bl_lst_tup, isi_bl_bl_str, isi_int_int, isi_int_bl, isi_int_str, isi_int_tup, isi_int_lst, isi_int_lst_tup, isi_int_bl_str, isi_str_int, isi_str_bl, isi_str_str, isi_str_tup, isi_str_lst, isi_str_lst_tup, isi_str_bl_str, isi_tup_int, isi_tup_bl, isi_tup_str, isi_tup_tup, isi_tup_lst, isi_tup_lst_tup, isi_tup_bl_str, isi_lst_int, isi_lst_bl, isi_lst_str, isi_lst_tup, isi_lst_lst, isi_lst_lst_tup, isi_lst_bl_str, isi_kl_int, isi_kl_bl, isi_kl_str, isi_kl_tup, isi_kl_lst, isi_kl_lst_tup, isi_kl_bl_str, endD_rt, endD_nx, seq_tupD, seq_lstD, mm_int, notin_I, decide_eq_true hh]
          exact ⟨trivial, _, rfl⟩
        · have l1 := lc_pureA (src := .seq (iD row)) (tg := evG (C (n + 5)) (.name 5)) (tt := evTs (C (n + 5)) (.cons (.cmp .ne (.var 5) (.var 6)) .nil)) (te := ev (C (n + 5)) (.var 5)) (ρ := [some (.ref 0), some (.tup (iD ks)), some (.int (ks.length : Nat)), x3, x4, none, some (.int w), some (.tup (iD row)), x8, some (.tup (iD (coverR ks row))), some (.tup (iD (headR ks row))), x11, x12, x13, x14]) (S := St) (w := 1000)
            row D.int (fun x => !decide (x = w)) D.int (fun x => [some (.ref 0), some (.tup (iD ks)), some (.int (ks.length : Nat)), x3, x4, some (.int x), some (.int w), some (.tup (iD row)), x8, some (.tup (iD (coverR ks row))), some (.tup (iD (headR ks row))), x11, x12, x13, x14]) (fun i => at_seq i) (fun x hx => ⟨rfl, by
              simp only [runB, ev_0A, ev_1A, ev_2A, ev_3A, ev_4A, ev_5A, ev_6A, ev_7A, ev_8A, ev_9A, ev_10A, ev_11A, ev_12A, ev_13A, ev_14A, ev_15A, ev_16A, ev_17A, ev_18A, ev_19A, ev_20A, ev_21A, evs_0A, evs_1A, evO_0A, evO_1A, evT_0A, evT_1A, evT_2A, evT_3A, evT_4A, evT_5A, evT_6A, evT_7A, evT_8A, evT_9A, evT_10A, evT_11A, evT_12A, evTs_0A, evTs_1A, evI_0A, evI_1A, evI_2A, evI_3A, evI_4A, evG_0A, evG_1A, evG_2A, evS_0A, evS_1A, evS_2A, evS_3A, evS_4A, evS_5A, evS_6A, evS_7A, evS_8A, evS_9A, evS_10A, bindO_ok, bindO_exn, bindO_bad, Res.bind_ok, Res.bind_exn, Res.bind_bad, Res.bindN_ok, optR_some, K0.d, EC, setN, setNs, wipeR, List.map_cons, List.map_nil, List.set_cons_zero, List.set_cons_succ, List.getElem?_cons_zero, List.getElem?_cons_succ, List.cons_append, List.nil_append, List.length_cons, List.length_nil, Option.map_some, Option.map_none, Nat.reduceAdd, Nat.reduceSub, Nat.reduceLeDiff, if_true, if_false, Bool.false_eq_true, List.replicate, evB_nil, evB_cons, seqO_nx, seqO_rt, seqO_exn, endD_exn, cmp_eq_int, cmp_ne_int, cmp_eq_bl, cmp_ne_bl, Bool.not_true, Bool.not_false, List.filterMap_cons, List.filterMap_nil, truth_bl, truth_int, truth_non, truth_tup, truth_lst, cmp_lt, cmp_le, cmp_gt, cmp_ge, cmp_in, cmp_inL, cmp_notin, ix_tup, ix_lst, ix_kl, add_int_true, sub_int_true, add_tup_true, pow_int_true, mul_tup_true, add_lst_true, sl_tup_true, sl_lst_true, sl_kl_true, len_tup_true, tuple_tup_true, list_tup_true, len_lst_true, tuple_lst_true, list_lst_true, len_kl_true, tuple_kl_true, list_kl_true, tuple_ref_true, int_int_true, int_bl_true, abs_int_true, all_lst_true, any_lst_true, sum_lst_true, max_lst_true, add_int_false, sub_int_false, add_tup_false, pow_int_false, mul_tup_false, add_lst_false, sl_tup_false, sl_lst_false, sl_kl_false, len_tup_false, tuple_tup_false, list_tup_false, len_lst_false, tuple_lst_false, list_lst_false, len_kl_false, tuple_kl_false, list_kl_false, tuple_ref_false, int_int_false, int_bl_false, abs_int_false, all_lst_false, any_lst_false, sum_lst_false, max_lst_false, newL_f, newL_t, sv_tup, sv_lst, sv_kl, se_tup, se_lst, se_kl, sz_tup, sz_lst, all_const, beq_self_eq_true, eq_self, decide_true, iD_len, in_iD, in_iDL, filter_tt, map_idd, atI_zero, blsOf_map, intsOf_map, all_map_id, cut_tail, is_int_n, isnot_int_n, is_bl_n, isnot_bl_n, is_str_n, isnot_str_n, is_tup_n, isnot_tup_n, is_lst_n, isnot_lst_n, is_kl_n, isnot_kl_n, is_non_n, isnot_non_n, is_bl_bl, seq_ref0, lst_ref0, own_ref0, truth_ref0, ix_ref0, app_ref0, tuple_ref0, len_ref0, set_ref0, isSome_some, atI_last, ix3_0, ix3_1, ix3_2, at3_1, at3_2, isi_non_int, isi_non_bl, isi_non_str, isi_non_tup, isi_non_lst, isi_non_lst_tup, isi_non_bl_str, isi_bl_int, isi_bl_bl, isi_bl_str, isi_bl_tup, isi_bl_lst, isi_bl_lst_tup, isi_bl_bl_str, isi_int_int, isi_int_bl, isi_int_str, isi_int_tup, isi_int_lst, isi_int_lst_tup, isi_int_bl_str, isi_str_int, isi_str_bl, isi_str_str, isi_str_tup, isi_str_lst, isi_str_lst_tup, isi_str_bl_str, isi_tup_int, isi_tup_bl, isi_tup_str, isi_tup_tup, isi_tup_lst, isi_tup_lst_tup, isi_tup_bl_str, isi_lst_int, isi_lst_bl, isi_lst_str, isi_lst_tup, isi_lst_lst, isi_lst_lst_tup, isi_lst_bl_str, isi_kl_int, isi_kl_bl, isi_kl_str, isi_kl_tup, isi_kl_lst, isi_kl_lst_tup, isi_kl_bl_str, endD_rt, endD_nx, seq_tupD, seq_lstD, mm_int]
              cases decide (x = w) <;> rfl, fun _ => rfl⟩) (by omega)
          have ei : ((row.filter fun x => !decide (x = w)).map D.int) = iD (row.filter fun x => !decide (x = w)) := rfl
          rw [ei] at l1
          have p1 : ∀ S : Store, callN (tblOf tbl) (cnOf cis) 1000 (n + 5) 19 [.tup (iD ks), .tup (iD (row.filter fun x => !decide (x = w)))] S = .ok (.tup (iD (coverR ks row))) S := fun S => by
            have := e_covered (n := n) (S := S) (x := .tup (iD ks)) (y := .tup (iD (row.filter fun x => !decide (x = w)))) (.inl rfl) (.inl rfl) h h7 (less_ok h h7 hr)
            rw [less_other h hr.2 hz hh] at this
            exact this
          simp only [runB, ev_0A, ev_1A, ev_2A, ev_3A, ev_4A, ev_5A, ev_6A, ev_7A, ev_8A, ev_9A, ev_10A, ev_11A, ev_12A, ev_13A, ev_14A, ev_15A, ev_16A, ev_17A, ev_18A, ev_19A, ev_20A, ev_21A, evs_0A, evs_1A, evO_0A, evO_1A, evT_0A, evT_1A, evT_2A, evT_3A, evT_4A, evT_5A, evT_6A, evT_7A, evT_8A, evT_9A, evT_10A, evT_11A, evT_12A, evTs_0A, evTs_1A, evI_0A, evI_1A, evI_2A, evI_3A, evI_4A, evG_0A, evG_1A, evG_2A, evS_0A, evS_1A, evS_2A, evS_3A, evS_4A, evS_5A, evS_6A, evS_7A, evS_8A, evS_9A, evS_10A, bindO_ok, bindO_exn, bindO_bad, Res.bind_ok, Res.bind_exn, Res.bind_bad, Res.bindN_ok, optR_some, K0.d, EC, setN, setNs, wipeR, List.map_cons, List.map_nil, List.set_cons_zero, List.set_cons_succ, List.getElem?_cons_zero, List.getElem?_cons_succ, List.cons_append, List.nil_append, List.length_cons, List.length_nil, Option.map_some, Option.map_none, Nat.reduceAdd, Nat.reduceSub, Nat.reduceLeDiff, if_true, if_false, Bool.false_eq_true, List.replicate, evB_nil, evB_cons, seqO_nx, seqO_rt, seqO_exn, endD_exn, cmp_eq_int, cmp_ne_int, cmp_eq_bl, cmp_ne_bl, Bool.not_true, Bool.not_false, List.filterMap_cons, List.filterMap_nil, truth_bl, truth_int, truth_non, truth_tup, truth_lst, cmp_lt, cmp_le, cmp_gt, cmp_ge, cmp_in, cmp_inL, cmp_notin, ix_tup, ix_lst, ix_kl, add_int_true, sub_int_true, add_tup_true, pow_int_true, mul_tup_true, add_lst_true, sl_tup_true, sl_lst_true, sl_kl_true, len_tup_true, tuple_tup_true, list_tup_true, len_lst_true, tuple_lst_true, list_lst_true, len_kl_true, tuple_kl_true, list_kl_true, tuple_ref_true, int_int_true, int_bl_true, abs_int_true, all_lst_true, any_lst_true, sum_lst_true, max_lst_true, add_int_false, sub_int_false, add_tup_false, pow_int_false, mul_tup_false, add_lst_false, sl_tup_false, sl_lst_false, sl_kl_false, len_tup_false, tuple_tup_false, list_tup_false, len_lst_false, tuple_lst_false, list_lst_false, len_kl_false, tuple_kl_false, list_kl_false, tuple_ref_false, int_int_false, int_bl_false, abs_int_false, all_lst_false, any_lst_false, sum_lst_false, max_lst_false, newL_f, newL_t, sv_tup, sv_lst, sv_kl, se_tup, se_lst, se_kl, sz_tup, sz_lst, all_const, beq_self_eq_true, eq_self, decide_true, iD_len, in_iD, in_iDL, filter_tt, map_idd, atI_zero, blsOf_map, intsOf_map, all_map_id, cut_tail, is_int_n, isnot_int_n, is_bl_n, isnot_bl_n, is_str_n, isnot_str_n, is_tup_n, isnot_tup_n, is_lst_n, isnot_lst_n, is_kl_n, isnot_kl_n, is_non_n, isnot_non_n, is_bl_bl, seq_ref0, lst_ref0, own_ref0, truth_ref0, ix_ref0, app_ref0, tuple_ref0, len_ref0, set_ref0, isSome_some, atI_last, ix3_0, ix3_1, ix3_2, at3_1, at3_2, isi_non_int, isi_non_bl, isi_non_str, isi_non_tup, isi_non_lst, isi_non_lst_tup, isi_non_bl_str, isi_bl_int, isi_bl_bl, isi_bl_str, isi_bl_tup, isi_bl_lst, isi_bl_lst_tup, isi_bl_bl_str, isi_int_int, isi_int_bl, isi_int_str, isi_int_tup, isi_int_lst, isi_int_lst_tup, isi_int_bl_str, isi_str_int, isi_str_bl, isi_str_str, isi_str_tup, isi_str_lst, isi_str_lst_tup, isi_str_bl_str, isi_tup_int, isi_tup_bl, isi_tup_str, isi_tup_tup, isi_tup_lst, isi_tup_lst_tup, isi_tup_bl_str, isi_lst_int, isi_lst_bl, isi_lst_str, isi_lst_tup, isi_lst_lst, isi_lst_lst_tup, isi_lst_bl_str, isi_kl_int, isi_kl_bl, isi_kl_str, isi_kl_tup, isi_kl_lst, isi_kl_lst_tup, isi_kl_bl_str, endD_rt, endD_nx, seq_tupD, seq_lstD, mm_int, notin_I, decide_eq_false hh, l1, p1, ne_tupI]
          exact ⟨trivial, _, rfl⟩)
    (by
      rintro ρ St ⟨rfl, y6, rfl⟩
      refine ⟨?_, y6, rfl⟩
      rw [at_seq, List.getElem?_eq_none (Nat.le_refl _)]
      rfl)
    1000 0 [some (.ref 0), some (.tup (iD ks)), some (.int (ks.length : Nat)), x3, x4, x5, x6, some (.tup (iD row)), x8, some (.tup (iD (coverR ks row))), some (.tup (iD (headR ks row))), x11, x12, x13, x14] st (by omega) (by omega) ⟨rfl, x6, rfl⟩
  obtain ⟨y6, e⟩ := loop
  refine ⟨y6, ?_⟩
  simp only [b32, nthS, runB, ev_0A, ev_1A, ev_2A, ev_3A, ev_4A, ev_5A, ev_6A, ev_7A, ev_8A, ev_9A, ev_10A, ev_11A, ev_12A, ev_13A, ev_14A, ev_15A, ev_16A, ev_17A, ev_18A, ev_19A, ev_20A, ev_21A, evs_0A, evs_1A, evO_0A, evO_1A, evT_0A, evT_1A, evT_2A, evT_3A, evT_4A, evT_5A, evT_6A, evT_7A, evT_8A, evT_9A, evT_10A, evT_11A, evT_12A, evTs_0A, evTs_1A, evI_0A, evI_1A, evI_2A, evI_3A, evI_4A, evG_0A, evG_1A, evG_2A, evS_0A, evS_1A, evS_2A, evS_3A, evS_4A, evS_5A, evS_6A, evS_7A, evS_8A, evS_9A, evS_10A, bindO_ok, bindO_exn, bindO_bad, Res.bind_ok, Res.bind_exn, Res.bind_bad, Res.bindN_ok, optR_some, K0.d, EC, setN, setNs, wipeR, List.map_cons, List.map_nil, List.set_cons_zero, List.set_cons_succ, List.getElem?_cons_zero, List.getElem?_cons_succ, List.cons_append, List.nil_append, List.length_cons, List.length_nil, Option.map_some, Option.map_none, Nat.reduceAdd, Nat.reduceSub, Nat.reduceLeDiff, if_true, if_false, Bool.false_eq_true, List.replicate, evB_nil, evB_cons, seqO_nx, seqO_rt, seqO_exn, endD_exn, cmp_eq_int, cmp_ne_int, cmp_eq_bl, cmp_ne_bl, Bool.not_true, Bool.not_false, List.filterMap_cons, List.filterMap_nil, truth_bl, truth_int, truth_non, truth_tup, truth_lst, cmp_lt, cmp_le, cmp_gt, cmp_ge, cmp_in, cmp_inL, cmp_notin, ix_tup, ix_lst, ix_kl, add_int_true, sub_int_true, add_tup_true, pow_int_true, mul_tup_true, add_lst_true, sl_tup_true, sl_lst_true, sl_kl_true, len_tup_true, tuple_tup_true, list_tup_true, len_lst_true, tuple_lst_true, list_lst_true, len_kl_true, tuple_kl_true, list_kl_true, tuple_ref_true, int_int_true, int_bl_true, abs_int_true, all_lst_true, any_lst_true, sum_lst_true, max_lst_true, add_int_false, sub_int_false, add_tup_false, pow_int_false, mul_tup_false, add_lst_false, sl_tup_false, sl_lst_false, sl_kl_false, len_tup_false, tuple_tup_false, list_tup_false, len_lst_false, tuple_lst_false, list_lst_false, len_kl_false, tuple_kl_false, list_kl_false, tuple_ref_false, int_int_false, int_bl_false, abs_int_false, all_lst_false, any_lst_false, sum_lst_false, max_lst_false, newL_f, newL_t, sv_tup, sv_lst, sv_kl, se_tup, se_lst, se_kl, sz_tup, sz_lst, all_const, beq_self_eq_true, eq_self, decide_true, iD_len, in_iD, in_iDL, filter_tt, map_idd, atI_zero, blsOf_map, intsOf_map, all_map_id, cut_tail, is_int_n, isnot_int_n, is_bl_n, isnot_bl_n, is_str_n, isnot_str_n, is_tup_n, isnot_tup_n, is_lst_n, isnot_lst_n, is_kl_n, isnot_kl_n, is_non_n, isnot_non_n, is_bl_bl, seq_ref0, lst_ref0, own_ref0, truth_ref0, ix_ref0, app_ref0, tuple_ref0, len_ref0, set_ref0, isSome_some, atI_last, ix3_0, ix3_1, ix3_2, at3_1, at3_2, isi_non_int, isi_non_bl, isi_non_str, isi_non_tup, isi_non_lst, isi_non_lst_tup, isi_non_bl_str, isi_bl_int, isi_bl_bl, isi_bl_str, isi_bl_tup, isi_bl_lst, isi_bl_lst_tup, isi_bl_bl_str, isi_int_int, isi_int_bl, isi_int_str, isi_int_tup, isi_int_lst, isi_int_lst_tup, isi_int_bl_str, isi_str_int, isi_str_bl, isi_str_str, isi_str_tup, isi_str_lst, isi_str_lst_tup, isi_str_bl_str, isi_tup_int, isi_tup_bl, isi_tup_str, isi_tup_tup, isi_tup_lst, isi_tup_lst_tup, isi_tup_bl_str, isi_lst_int, isi_lst_bl, isi_lst_str, isi_lst_tup, isi_lst_lst, isi_lst_lst_tup, isi_lst_bl_str, isi_kl_int, isi_kl_bl, isi_kl_str, isi_kl_tup, isi_kl_lst, isi_kl_lst_tup, isi_kl_bl_str, endD_rt, endD_nx, seq_tupD, seq_lstD, mm_int, e]
theorem s1013 {a b c : Int} {R : Store} {x3 x4 x5 x6 x8 x11 x12 x13 x14 : Option D} (a0 : 0 ≤ a) (b0 : 0 ≤ b) (c0 : 0 ≤ c) (c1 : c < 800000000) : ∃ (u v a' c' : Int), 0 ≤ a' ∧ 0 ≤ c' ∧ c' ≤ c + 2 ∧ ∃ y3 y3' : Option D,
    evS (C (n + 5)) (nthS b32 10) [some (.ref 0), some (.tup (iD ks)), some (.int (ks.length : Nat)), x3, x4, x5, x6, some (.tup (iD row)), x8, some (.tup (iD (coverR ks row))), some (.tup (iD (headR ks row))), x11, x12, x13, x14] (boxD a b c :: R) =
      .nx [some (.ref 0), some (.tup (iD ks)), some (.int (ks.length : Nat)), x3, x4, x5, x6, some (.tup (iD row)), x8, some (.tup (iD (coverR ks row))), some (.tup (iD (headR ks row))), x11, some (.int u), some (.int v), x14] (boxD a' b c' :: R) ∧
    evS (C (n + 5)) (nthS b32 11) [some (.ref 0), some (.tup (iD ks)), some (.int (ks.length : Nat)), x3, x4, x5, x6, some (.tup (iD row)), x8, some (.tup (iD (coverR ks row))), some (.tup (iD (headR ks row))), x11, some (.int u), some (.int v), x14] (boxD a' b c' :: R) =
      .nx [some (.ref 0), some (.tup (iD ks)), some (.int (ks.length : Nat)), y3, x4, x5, x6, some (.tup (iD row)), x8, some (.tup (iD (coverR ks row))), some (.tup (iD (headR ks row))), x11, some (.int u), some (.int v), x14] (boxD a' b c' :: R) ∧
    evS (C (n + 5)) (nthS b32 12) [some (.ref 0), some (.tup (iD ks)), some (.int (ks.length : Nat)), y3, x4, x5, x6, some (.tup (iD row)), x8, some (.tup (iD (coverR ks row))), some (.tup (iD (headR ks row))), x11, some (.int u), some (.int v), x14] (boxD a' b c' :: R) =
      .nx [some (.ref 0), some (.tup (iD ks)), some (.int (ks.length : Nat)), y3', x4, x5, x6, some (.tup (iD row)), x8, some (.tup (iD (coverR ks row))), some (.tup (iD (headR ks row))), x11, some (.int u), some (.int v), x14] (boxD a' b c' :: R) ∧
    evS (C (n + 5)) (nthS b32 13) [some (.ref 0), some (.tup (iD ks)), some (.int (ks.length : Nat)), y3', x4, x5, x6, some (.tup (iD row)), x8, some (.tup (iD (coverR ks row))), some (.tup (iD (headR ks row))), x11, some (.int u), some (.int v), x14] (boxD a' b c' :: R) = .rt (.bl true) (boxD a' b c' :: R) := by
  have l8 := isK_len h
  obtain ⟨u, a2, c2, q1, u0, u1, a20, c20, c21⟩ := e_take (n := n + 4) (w := ((ks.length : Nat) : Int)) (R := R) a0 b0 c0 (by omega) (by omega) (by omega)
  obtain ⟨v, a3, c3, q2, v0, v1, a30, c30, c31⟩ := e_take (n := n + 4) (w := ((ks.length : Nat) : Int)) (R := R) a20 b0 c20 (by omega) (by omega) (by omega)
  have q1' : callN (tblOf tbl) (cnOf cis) 1000 (n + 5) 22 [.ref 0, .int ((ks.length : Nat) : Int)] (boxD a b c :: R) = .ok (.int u) (boxD a2 b c2 :: R) := q1
  have q2' : callN (tblOf tbl) (cnOf cis) 1000 (n + 5) 22 [.ref 0, .int ((ks.length : Nat) : Int)] (boxD a2 b c2 :: R) = .ok (.int v) (boxD a3 b c3 :: R) := q2
  have ru : rowOk ks [u] := ⟨by simp, fun x hx => by rw [List.mem_singleton.mp hx]; exact ⟨u0, u1⟩⟩
  have rz : rowOk ks [0] := ⟨by simp, fun x hx => by rw [List.mem_singleton.mp hx]; omega⟩
  have rn : rowOk ks [] := ⟨List.Pairwise.nil, fun x hx => absurd hx List.not_mem_nil⟩
  have ra : rowOk ks (rgI ks.length) := ⟨by
    have := sorted_frange (m := ks.length) (p := fun _ => true)
    rw [filter_tt] at this
    exact this, fun x hx => mem_range.mp hx⟩
  have p1 : ∀ S : Store, callN (tblOf tbl) (cnOf cis) 1000 (n + 5) 19 [.tup (iD ks), .tup [.int u]] S = .ok (.tup (iD (under ks u))) S := fun S => by
    have := e_covered (n := n) (S := S) (x := .tup (iD ks)) (y := .tup (iD [u])) (.inl rfl) (.inl rfl) h h7 ru
    rw [cover_one h] at this
    exact this
  have p2 : ∀ S : Store, callN (tblOf tbl) (cnOf cis) 1000 (n + 5) 13 [.tup (iD ks), .int v, .int u] S = .ok (.bl (decide (u ∈ line ks v))) S := fun S => e_isUnderP (.inl rfl) h v0 v1 u0 u1
  have p3 : ∀ S : Store, callN (tblOf tbl) (cnOf cis) 1000 (n + 5) 19 [.tup (iD ks), .tup [.int 0]] S = .ok (.tup (iD (rgI ks.length))) S := fun S => by
    have := e_covered (n := n) (S := S) (x := .tup (iD ks)) (y := .tup (iD [0])) (.inl rfl) (.inl rfl) h h7 rz
    rw [cover_zero h] at this
    exact this
  have p4 : ∀ S : Store, callN (tblOf tbl) (cnOf cis) 1000 (n + 5) 19 [.tup (iD ks), .tup []] S = .ok (.tup []) S := fun S => e_covered (n := n) (S := S) (x := .tup (iD ks)) (y := .tup (iD [])) (.inl rfl) (.inl rfl) h h7 rn
  have p5 : ∀ S : Store, callN (tblOf tbl) (cnOf cis) 1000 (n + 5) 20 [.tup (iD ks), .tup (iD (rgI ks.length))] S = .ok (.tup [.int 0]) S := fun S => by
    have := e_heads (n := n) (S := S) (x := .tup (iD ks)) (y := .tup (iD (rgI ks.length))) (.inl rfl) (.inl rfl) h h7 ra
    rw [heads_all h] at this
    exact this
  have p6 : ∀ S : Store, callN (tblOf tbl) (cnOf cis) 1000 (n + 5) 20 [.tup (iD ks), .tup []] S = .ok (.tup []) S := fun S => e_heads (n := n) (S := S) (x := .tup (iD ks)) (y := .tup (iD [])) (.inl rfl) (.inl rfl) h h7 rn
  have p7 : ∀ S : Store, callN (tblOf tbl) (cnOf cis) 1000 (n + 5) 14 [.tup (iD ks), .int u] S = .ok (.tup (iD (under ks u))) S := fun S => e_underP (.inl rfl) h u0 u1
  have tr : ∀ S : Store, biD false .trg (.int ((ks.length : Nat) : Int)) S = .ok (.tup (iD (rgI ks.length))) S := fun S => trg_ok (by omega)
  have di : decide (v ∈ under ks u) = decide (u ∈ line ks v) := by
    have : v ∈ under ks u ↔ u ∈ line ks v := by
      rw [mem_under]
      exact ⟨fun z => z.2.2, fun z => ⟨v0, v1, z⟩⟩
    simp only [this]
  refine ⟨u, v, a3, c3, a30, c30, by omega, some (.lst [.tup (iD (under ks u)), .bl (decide (u ∈ line ks v)), .tup (iD (rgI ks.length)), .tup []]), some (.lst [.tup (iD (under ks u)), .bl (decide (u ∈ line ks v)), .tup (iD (rgI ks.length)), .tup [], .tup [.int 0], .tup []]), ?_, ?_, ?_, ?_⟩
  · simp only [b32, nthS, runB, ev_0A, ev_1A, ev_2A, ev_3A, ev_4A, ev_5A, ev_6A, ev_7A, ev_8A, ev_9A, ev_10A, ev_11A, ev_12A, ev_13A, ev_14A, ev_15A, ev_16A, ev_17A, ev_18A, ev_19A, ev_20A, ev_21A, evs_0A, evs_1A, evO_0A, evO_1A, evT_0A, evT_1A, evT_2A, evT_3A, evT_4A, evT_5A, evT_6A, evT_7A, evT_8A, evT_9A, evT_10A, evT_11A, evT_12A, evTs_0A, evTs_1A, evI_0A, evI_1A, evI_2A, evI_3A, evI_4A, evG_0A, evG_1A, evG_2A, evS_0A, evS_1A, evS_2A, evS_3A, evS_4A, evS_5A, evS_6A, evS_7A, evS_8A, evS_9A, evS_10A, bindO_ok, bindO_exn, bindO_bad, Res.bind_ok, Res.bind_exn, Res.bind_bad, Res.bindN_ok, optR_some, K0.d, EC, setN, setNs, wipeR, List.map_cons, List.map_nil, List.set_cons_zero, List.set_cons_succ, List.getElem?_cons_zero, List.getElem?_cons_succ, List.cons_append, List.nil_append, List.length_cons, List.length_nil, Option.map_some, Option.map_none, Nat.reduceAdd, Nat.reduceSub, Nat.reduceLeDiff, if_true, if_false, Bool.false_eq_true, List.replicate, evB_nil, evB_cons, seqO_nx, seqO_rt, seqO_exn, endD_exn, cmp_eq_int, cmp_ne_int, cmp_eq_bl, cmp_ne_bl, Bool.not_true, Bool.not_false, List.filterMap_cons, List.filterMap_nil, truth_bl, truth_int, truth_non, truth_tup, truth_lst, cmp_lt, cmp_le, cmp_gt, cmp_ge, cmp_in, cmp_inL, cmp_notin, ix_tup, ix_lst, ix_kl, add_int_true, sub_int_true, add_tup_true, pow_int_true, mul_tup_true, add_lst_true, sl_tup_true, sl_lst_true, sl_kl_true, len_tup_true, tuple_tup_true, list_tup_true, len_lst_true, tuple_lst_true, list_lst_true, len_kl_true, tuple_kl_true, list_kl_true, tuple_ref_true, int_int_true, int_bl_true, abs_int_true, all_lst_true, any_lst_true, sum_lst_true, max_lst_true, add_int_false, sub_int_false, add_tup_false, pow_int_false, mul_tup_false, add_lst_false, sl_tup_false, sl_lst_false, sl_kl_false, len_tup_false, tuple_tup_false, list_tup_false, len_lst_false, tuple_lst_false, list_lst_false, len_kl_false, tuple_kl_false, list_kl_false, tuple_ref_false, int_int_false, int_bl_false, abs_int_false, all_lst_false, any_lst_false, sum_lst_false, max_lst_false, newL_f, newL_t, sv_tup, sv_lst, sv_kl, se_tup, se_lst, se_kl, sz_tup, sz_lst, all_const, beq_self_eq_true, eq_self, decide_true, iD_len, in_iD, in_iDL, filter_tt, map_idd, atI_zero, blsOf_map, intsOf_map, all_map_id, cut_tail, is_int_n, isnot_int_n, is_bl_n, isnot_bl_n, is_str_n, isnot_str_n, is_tup_n, isnot_tup_n, is_lst_n, isnot_lst_n, is_kl_n, isnot_kl_n, is_non_n, isnot_non_n, is_bl_bl, seq_ref0, lst_ref0, own_ref0, truth_ref0, ix_ref0, app_ref0, tuple_ref0, len_ref0, set_ref0, isSome_some, atI_last, ix3_0, ix3_1, ix3_2, at3_1, at3_2, isi_non_int, isi_non_bl, isi_non_str, isi_non_tup, isi_non_lst, isi_non_lst_tup, isi_non_bl_str, isi_bl_int, isi_bl_bl, isi_bl_str, isi_bl_tup, isi_bl_lst, isi_bl_lst_tup, isi_bl_bl_str, isi_int_int, isi_int_bl, isi_int_str, isi_int_tup, isi_int_lst, isi_int_lst_tup, isi_int_bl_str, isi_str_int, isi_str_bl, isi_str_str, isi_str_tup, isi_str_lst, isi_str_lst_tup, isi_str_bl_str, isi_tup_int, isi_tup_bl, isi_tup_str, isi_tup_tup, isi_tup_lst, isi_tup_lst_tup, isi_tup_bl_str, isi_lst_int, isi_lst_bl, isi_lst_str, isi_lst_tup, isi_lst_lst, isi_lst_lst_tup, isi_lst_bl_str, isi_kl_int, isi_kl_bl, isi_kl_str, isi_kl_tup, isi_kl_lst, isi_kl_lst_tup, isi_kl_bl_str, endD_rt, endD_nx, seq_tupD, seq_lstD, mm_int, q1', q2']
  · simp only [b32, nthS, runB, ev_0A, ev_1A, ev_2A, ev_3A, ev_4A, ev_5A, ev_6A, ev_7A, ev_8A, ev_9A, ev_10A, ev_11A, ev_12A, ev_13A, ev_14A, ev_15A, ev_16A, ev_17A, ev_18A, ev_19A, ev_20A, ev_21A, evs_0A, evs_1A, evO_0A, evO_1A, evT_0A, evT_1A, evT_2A, evT_3A, evT_4A, evT_5A, evT_6A, evT_7A, evT_8A, evT_9A, evT_10A, evT_11A, evT_12A, evTs_0A, evTs_1A, evI_0A, evI_1A, evI_2A, evI_3A, evI_4A, evG_0A, evG_1A, evG_2A, evS_0A, evS_1A, evS_2A, evS_3A, evS_4A, evS_5A, evS_6A, evS_7A, evS_8A, evS_9A, evS_10A, bindO_ok, bindO_exn, bindO_bad, Res.bind_ok, Res.bind_exn, Res.bind_bad, Res.bindN_ok, optR_some, K0.d, EC, setN, setNs, wipeR, List.map_cons, List.map_nil, List.set_cons_zero, List.set_cons_succ, List.getElem?_cons_zero, List.getElem?_cons_succ, List.cons_append, List.nil_append, List.length_cons, List.length_nil, Option.map_some, Option.map_none, Nat.reduceAdd, Nat.reduceSub, Nat.reduceLeDiff, if_true, if_false, Bool.false_eq_true, List.replicate, evB_nil, evB_cons, seqO_nx, seqO_rt, seqO_exn, endD_exn, cmp_eq_int, cmp_ne_int, cmp_eq_bl, cmp_ne_bl, Bool.not_true, Bool.not_false, List.filterMap_cons, List.filterMap_nil, truth_bl, truth_int, truth_non, truth_tup, truth_lst, cmp_lt, cmp_le, cmp_gt, cmp_ge, cmp_in, cmp_inL, cmp_notin, ix_tup, ix_lst, ix_kl, add_int_true, sub_int_true, add_tup_true, pow_int_true, mul_tup_true, add_lst_true, sl_tup_true, sl_lst_true, sl_kl_true, len_tup_true, tuple_tup_true, list_tup_true, len_lst_true, tuple_lst_true, list_lst_true, len_kl_true, tuple_kl_true, list_kl_true, tuple_ref_true, int_int_true, int_bl_true, abs_int_true, all_lst_true, any_lst_true, sum_lst_true, max_lst_true, add_int_false, sub_int_false, add_tup_false, pow_int_false, mul_tup_false, add_lst_false, sl_tup_false, sl_lst_false, sl_kl_false, len_tup_false, tuple_tup_false, list_tup_false, len_lst_false, tuple_lst_false, list_lst_false, len_kl_false, tuple_kl_false, list_kl_false, tuple_ref_false, int_int_false, int_bl_false, abs_int_false, all_lst_false, any_lst_false, sum_lst_false, max_lst_false, newL_f, newL_t, sv_tup, sv_lst, sv_kl, se_tup, se_lst, se_kl, sz_tup, sz_lst, all_const, beq_self_eq_true, eq_self, decide_true, iD_len, in_iD, in_iDL, filter_tt, map_idd, atI_zero, blsOf_map, intsOf_map, all_map_id, cut_tail, is_int_n, isnot_int_n, is_bl_n, isnot_bl_n, is_str_n, isnot_str_n, is_tup_n, isnot_tup_n, is_lst_n, isnot_lst_n, is_kl_n, isnot_kl_n, is_non_n, isnot_non_n, is_bl_bl, seq_ref0, lst_ref0, own_ref0, truth_ref0, ix_ref0, app_ref0, tuple_ref0, len_ref0, set_ref0, isSome_some, atI_last, ix3_0, ix3_1, ix3_2, at3_1, at3_2, isi_non_int, isi_non_bl, isi_non_str, isi_non_tup, isi_non_lst, isi_non_lst_tup, isi_non_bl_str, isi_bl_int, isi_bl_bl, isi_bl_str, isi_bl_tup, isi_bl_lst, isi_bl_lst_tup, isi_bl_bl_str, isi_int_int, isi_int_bl, isi_int_str, isi_int_tup, isi_int_lst, isi_int_lst_tup, isi_int_bl_str, isi_str_int, isi_str_bl, isi_str_str, isi_str_tup, isi_str_lst, isi_str_lst_tup, isi_str_bl_str, isi_tup_int, isi_tup_bl, isi_tup_str, isi_tup_tup, isi_tup_lst, isi_tup_lst_tup, isi_tup_bl_str, isi_lst_int, isi_lst_bl, isi_lst_str, isi_lst_tup, isi_lst_lst, isi_lst_lst_tup, isi_lst_bl_str, isi_kl_int, isi_kl_bl, isi_kl_str, isi_kl_tup, isi_kl_lst, isi_kl_lst_tup, isi_kl_bl_str, endD_rt, endD_nx, seq_tupD, seq_lstD, mm_int, p1, p2, p3, p4]
  · have ad : ∀ S : Store, binD false .add (.lst [.tup (iD (under ks u)), .bl (decide (u ∈ line ks v)), .tup (iD (rgI ks.length)), .tup []]) (.lst [.tup [.int 0], .tup []]) S = .ok (.lst [.tup (iD (under ks u)), .bl (decide (u ∈ line ks v)), .tup (iD (rgI ks.length)), .tup [], .tup [.int 0], .tup []]) S := fun S => rfl
    simp only [b32, nthS, runB, ev_0A, ev_1A, ev_2A, ev_3A, ev_4A, ev_5A, ev_6A, ev_7A, ev_8A, ev_9A, ev_10A, ev_11A, ev_12A, ev_13A, ev_14A, ev_15A, ev_16A, ev_17A, ev_18A, ev_19A, ev_20A, ev_21A, evs_0A, evs_1A, evO_0A, evO_1A, evT_0A, evT_1A, evT_2A, evT_3A, evT_4A, evT_5A, evT_6A, evT_7A, evT_8A, evT_9A, evT_10A, evT_11A, evT_12A, evTs_0A, evTs_1A, evI_0A, evI_1A, evI_2A, evI_3A, evI_4A, evG_0A, evG_1A, evG_2A, evS_0A, evS_1A, evS_2A, evS_3A, evS_4A, evS_5A, evS_6A, evS_7A, evS_8A, evS_9A, evS_10A, bindO_ok, bindO_exn, bindO_bad, Res.bind_ok, Res.bind_exn, Res.bind_bad, Res.bindN_ok, optR_some, K0.d, EC, setN, setNs, wipeR, List.map_cons, List.map_nil, List.set_cons_zero, List.set_cons_succ, List.getElem?_cons_zero, List.getElem?_cons_succ, List.cons_append, List.nil_append, List.length_cons, List.length_nil, Option.map_some, Option.map_none, Nat.reduceAdd, Nat.reduceSub, Nat.reduceLeDiff, if_true, if_false, Bool.false_eq_true, List.replicate, evB_nil, evB_cons, seqO_nx, seqO_rt, seqO_exn, endD_exn, cmp_eq_int, cmp_ne_int, cmp_eq_bl, cmp_ne_bl, Bool.not_true, Bool.not_false, List.filterMap_cons, List.filterMap_nil, truth_bl, truth_int, truth_non, truth_tup, truth_lst, cmp_lt, cmp_le, cmp_gt, cmp_ge, cmp_in, cmp_inL, cmp_notin, ix_tup, ix_lst, ix_kl, add_int_true, sub_int_true, pow_int_true, sl_tup_true, sl_lst_true, sl_kl_true, len_tup_true, tuple_tup_true, list_tup_true, len_lst_true, tuple_lst_true, list_lst_true, len_kl_true, tuple_kl_true, list_kl_true, tuple_ref_true, int_int_true, int_bl_true, abs_int_true, all_lst_true, any_lst_true, sum_lst_true, max_lst_true, add_int_false, sub_int_false, pow_int_false, sl_tup_false, sl_lst_false, sl_kl_false, len_tup_false, tuple_tup_false, list_tup_false, len_lst_false, tuple_lst_false, list_lst_false, len_kl_false, tuple_kl_false, list_kl_false, tuple_ref_false, int_int_false, int_bl_false, abs_int_false, all_lst_false, any_lst_false, sum_lst_false, max_lst_false, newL_f, newL_t, sv_tup, sv_lst, sv_kl, se_tup, se_lst, se_kl, sz_tup, sz_lst, all_const, beq_self_eq_true, eq_self, decide_true, iD_len, in_iD, in_iDL, filter_tt, map_idd, atI_zero, blsOf_map, intsOf_map, all_map_id, cut_tail, is_int_n, isnot_int_n, is_bl_n, isnot_bl_n, is_str_n, isnot_str_n, is_tup_n, isnot_tup_n, is_lst_n, isnot_lst_n, is_kl_n, isnot_kl_n, is_non_n, isnot_non_n, is_bl_bl, seq_ref0, lst_ref0, own_ref0, truth_ref0, ix_ref0, app_ref0, tuple_ref0, len_ref0, set_ref0, isSome_some, atI_last, ix3_0, ix3_1, ix3_2, at3_1, at3_2, isi_non_int, isi_non_bl, isi_non_str, isi_non_tup, isi_non_lst, isi_non_lst_tup, isi_non_bl_str, isi_bl_int, isi_bl_bl, isi_bl_str, isi_bl_tup, isi_bl_lst, isi_bl_lst_tup, isi_bl_bl_str, isi_int_int, isi_int_bl, isi_int_str, isi_int_tup, isi_int_lst, isi_int_lst_tup, isi_int_bl_str, isi_str_int, isi_str_bl, isi_str_str, isi_str_tup, isi_str_lst, isi_str_lst_tup, isi_str_bl_str, isi_tup_int, isi_tup_bl, isi_tup_str, isi_tup_tup, isi_tup_lst, isi_tup_lst_tup, isi_tup_bl_str, isi_lst_int, isi_lst_bl, isi_lst_str, isi_lst_tup, isi_lst_lst, isi_lst_lst_tup, isi_lst_bl_str, isi_kl_int, isi_kl_bl, isi_kl_str, isi_kl_tup, isi_kl_lst, isi_kl_lst_tup, isi_kl_bl_str, endD_rt, endD_nx, seq_tupD, seq_lstD, mm_int, tr, p5, p6, ad]
  · have sm : ∀ S : Store, callN (tblOf tbl) (cnOf cis) 1000 (n + 5) 26 [.lst [.tup (iD (under ks u)), .bl (decide (u ∈ line ks v)), .tup (iD (rgI ks.length)), .tup [], .tup [.int 0], .tup []], .lst [.tup (iD (under ks u)), .bl (decide (u ∈ line ks v)), .tup (iD (rgI ks.length)), .tup [], .tup [.int 0], .tup []]] S = .ok (.bl true) S := fun S => by
      rw [show n + 5 = 2 + (n + 2) + 1 by omega]
      refine e_same 2 (n + 2) _ S ?_
      show (decide (6 < 1000) && (okS 1 _ && (okS 1 (D.bl _) && (okS 1 _ && (okS 1 (D.tup []) && (okS 1 (D.tup [.int 0]) && (okS 1 (D.tup []) && true))))))) = true
      rw [okS_iD (Nat.lt_of_le_of_lt under_len (by omega)), okS_iD (by simp; omega)]
      rfl
    simp only [b32, nthS, runB, ev_0A, ev_1A, ev_2A, ev_3A, ev_4A, ev_5A, ev_6A, ev_7A, ev_8A, ev_9A, ev_10A, ev_11A, ev_12A, ev_13A, ev_14A, ev_15A, ev_16A, ev_17A, ev_18A, ev_19A, ev_20A, ev_21A, evs_0A, evs_1A, evO_0A, evO_1A, evT_0A, evT_1A, evT_2A, evT_3A, evT_4A, evT_5A, evT_6A, evT_7A, evT_8A, evT_9A, evT_10A, evT_11A, evT_12A, evTs_0A, evTs_1A, evI_0A, evI_1A, evI_2A, evI_3A, evI_4A, evG_0A, evG_1A, evG_2A, evS_0A, evS_1A, evS_2A, evS_3A, evS_4A, evS_5A, evS_6A, evS_7A, evS_8A, evS_9A, evS_10A, bindO_ok, bindO_exn, bindO_bad, Res.bind_ok, Res.bind_exn, Res.bind_bad, Res.bindN_ok, optR_some, K0.d, EC, setN, setNs, wipeR, List.map_cons, List.map_nil, List.set_cons_zero, List.set_cons_succ, List.getElem?_cons_zero, List.getElem?_cons_succ, List.cons_append, List.nil_append, List.length_cons, List.length_nil, Option.map_some, Option.map_none, Nat.reduceAdd, Nat.reduceSub, Nat.reduceLeDiff, if_true, if_false, Bool.false_eq_true, List.replicate, evB_nil, evB_cons, seqO_nx, seqO_rt, seqO_exn, endD_exn, cmp_eq_int, cmp_ne_int, cmp_eq_bl, cmp_ne_bl, Bool.not_true, Bool.not_false, List.filterMap_cons, List.filterMap_nil, truth_bl, truth_int, truth_non, truth_tup, truth_lst, cmp_lt, cmp_le, cmp_gt, cmp_ge, cmp_in, cmp_inL, cmp_notin, ix_tup, ix_lst, ix_kl, add_int_true, sub_int_true, add_tup_true, pow_int_true, mul_tup_true, add_lst_true, sl_tup_true, sl_lst_true, sl_kl_true, len_tup_true, tuple_tup_true, list_tup_true, len_lst_true, tuple_lst_true, list_lst_true, len_kl_true, tuple_kl_true, list_kl_true, tuple_ref_true, int_int_true, int_bl_true, abs_int_true, all_lst_true, any_lst_true, sum_lst_true, max_lst_true, add_int_false, sub_int_false, add_tup_false, pow_int_false, mul_tup_false, add_lst_false, sl_tup_false, sl_lst_false, sl_kl_false, len_tup_false, tuple_tup_false, list_tup_false, len_lst_false, tuple_lst_false, list_lst_false, len_kl_false, tuple_kl_false, list_kl_false, tuple_ref_false, int_int_false, int_bl_false, abs_int_false, all_lst_false, any_lst_false, sum_lst_false, max_lst_false, newL_f, newL_t, sv_tup, sv_lst, sv_kl, se_tup, se_lst, se_kl, sz_tup, sz_lst, all_const, beq_self_eq_true, eq_self, decide_true, iD_len, in_iD, in_iDL, filter_tt, map_idd, atI_zero, blsOf_map, intsOf_map, all_map_id, cut_tail, is_int_n, isnot_int_n, is_bl_n, isnot_bl_n, is_str_n, isnot_str_n, is_tup_n, isnot_tup_n, is_lst_n, isnot_lst_n, is_kl_n, isnot_kl_n, is_non_n, isnot_non_n, is_bl_bl, seq_ref0, lst_ref0, own_ref0, truth_ref0, ix_ref0, app_ref0, tuple_ref0, len_ref0, set_ref0, isSome_some, atI_last, ix3_0, ix3_1, ix3_2, at3_1, at3_2, isi_non_int, isi_non_bl, isi_non_str, isi_non_tup, isi_non_lst, isi_non_lst_tup, isi_non_bl_str, isi_bl_int, isi_bl_bl, isi_bl_str, isi_bl_tup, isi_bl_lst, isi_bl_lst_tup, isi_bl_bl_str, isi_int_int, isi_int_bl, isi_int_str, isi_int_tup, isi_int_lst, isi_int_lst_tup, isi_int_bl_str, isi_str_int, isi_str_bl, isi_str_str, isi_str_tup, isi_str_lst, isi_str_lst_tup, isi_str_bl_str, isi_tup_int, isi_tup_bl, isi_tup_str, isi_tup_tup, isi_tup_lst, isi_tup_lst_tup, isi_tup_bl_str, isi_lst_int, isi_lst_bl, isi_lst_str, isi_lst_tup, isi_lst_lst, isi_lst_lst_tup, isi_lst_bl_str, isi_kl_int, isi_kl_bl, isi_kl_str, isi_kl_tup, isi_kl_lst, isi_kl_lst_tup, isi_kl_bl_str, endD_rt, endD_nx, seq_tupD, seq_lstD, mm_int, p1, p7, tr, di, sm]
end
theorem e_right {n : Nat} {a b c : Int} {R : Store} (a0 : 0 ≤ a) (b0 : 0 ≤ b) (c0 : 0 ≤ c) (c1 : c < 1000000) : ∃ a' c' R', E (n + 6) 32 [.ref 0] (boxD a b c :: R) = .ok (.bl true) (boxD a' b c' :: R') ∧ 0 ≤ a' ∧ 0 ≤ c' ∧ c' ≤ c + 40 := by
  have hE : E (n + 6) 32 [.ref 0] (boxD a b c :: R) = runB (C (n + 5)) d32.fd [.ref 0] (boxD a b c :: R) := callI rfl rfl rfl
  rw [hE]
  show ∃ a' c' R', endD (evB (C (n + 5)) b32 [some (.ref 0), none, none, none, none, none, none, none, none, none, none, none, none, none, none] (boxD a b c :: R)) = _ ∧ _
  obtain ⟨ks, a1, c2, q, h, h7, a10, c20, c21⟩ := e_kinds (n := n + 3) (m := 7) (R := R) a0 b0 c0 (by omega) (by omega) (by omega)
  have l8 := isK_len h
  have q' : callN (tblOf tbl) (cnOf cis) 1000 (n + 5) 27 [.ref 0, .int 7] (boxD a b c :: R) = .ok (.tup (iD ks)) (boxD a1 b c2 :: R) := q
  have step : ∀ (i : Nat) (ρ : Rho) (S : Store), i < 14 → evB (C (n + 5)) (dropS b32 i) ρ S = seqO (evS (C (n + 5)) (nthS b32 i) ρ S) (evB (C (n + 5)) (dropS b32 (i + 1))) := fun i ρ S hi => by
    match i, hi with
    | 0, _ => exact evB_cons
    | 1, _ => exact evB_cons
    | 2, _ => exact evB_cons
    | 3, _ => exact evB_cons
    | 4, _ => exact evB_cons
    | 5, _ => exact evB_cons
    | 6, _ => exact evB_cons
    | 7, _ => exact evB_cons
    | 8, _ => exact evB_cons
    | 9, _ => exact evB_cons
    | 10, _ => exact evB_cons
    | 11, _ => exact evB_cons
    | 12, _ => exact evB_cons
    | 13, _ => exact evB_cons
  have t0 : evS (C (n + 5)) (nthS b32 0) [some (.ref 0), none, none, none, none, none, none, none, none, none, none, none, none, none, none] (boxD a b c :: R) =
      .nx [some (.ref 0), some (.tup (iD ks)), none, none, none, none, none, none, none, none, none, none, none, none, none] (boxD a1 b c2 :: R) := by
    simp only [b32, nthS, runB, ev_0A, ev_1A, ev_2A, ev_3A, ev_4A, ev_5A, ev_6A, ev_7A, ev_8A, ev_9A, ev_10A, ev_11A, ev_12A, ev_13A, ev_14A, ev_15A, ev_16A, ev_17A, ev_18A, ev_19A, ev_20A, ev_21A, evs_0A, evs_1A, evO_0A, evO_1A, evT_0A, evT_1A, evT_2A, evT_3A, evT_4A, evT_5A, evT_6A, evT_7A, evT_8A, evT_9A, evT_10A, evT_11A, evT_12A, evTs_0A, evTs_1A, evI_0A, evI_1A, evI_2A, evI_3A, evI_4A, evG_0A, evG_1A, evG_2A, evS_0A, evS_1A, evS_2A, evS_3A, evS_4A, evS_5A, evS_6A, evS_7A, evS_8A, evS_9A, evS_10A, bindO_ok, bindO_exn, bindO_bad, Res.bind_ok, Res.bind_exn, Res.bind_bad, Res.bindN_ok, optR_some, K0.d, EC, setN, setNs, wipeR, List.map_cons, List.map_nil, List.set_cons_zero, List.set_cons_succ, List.getElem?_cons_zero, List.getElem?_cons_succ, List.cons_append, List.nil_append, List.length_cons, List.length_nil, Option.map_some, Option.map_none, Nat.reduceAdd, Nat.reduceSub, Nat.reduceLeDiff, if_true, if_false, Bool.false_eq_true, List.replicate, evB_nil, evB_cons, seqO_nx, seqO_rt, seqO_exn, endD_exn, cmp_eq_int, cmp_ne_int, cmp_eq_bl, cmp_ne_bl, Bool.not_true, Bool.not_false, List.filterMap_cons, List.filterMap_nil, truth_bl, truth_int, truth_non, truth_tup, truth_lst, cmp_lt, cmp_le, cmp_gt, cmp_ge, cmp_in, cmp_inL, cmp_notin, ix_tup, ix_lst, ix_kl, add_int_true, sub_int_true, add_tup_true, pow_int_true, mul_tup_true, add_lst_true, sl_tup_true, sl_lst_true, sl_kl_true, len_tup_true, tuple_tup_true, list_tup_true, len_lst_true, tuple_lst_true, list_lst_true, len_kl_true, tuple_kl_true, list_kl_true, tuple_ref_true, int_int_true, int_bl_true, abs_int_true, all_lst_true, any_lst_true, sum_lst_true, max_lst_true, add_int_false, sub_int_false, add_tup_false, pow_int_false, mul_tup_false, add_lst_false, sl_tup_false, sl_lst_false, sl_kl_false, len_tup_false, tuple_tup_false, list_tup_false, len_lst_false, tuple_lst_false, list_lst_false, len_kl_false, tuple_kl_false, list_kl_false, tuple_ref_false, int_int_false, int_bl_false, abs_int_false, all_lst_false, any_lst_false, sum_lst_false, max_lst_false, newL_f, newL_t, sv_tup, sv_lst, sv_kl, se_tup, se_lst, se_kl, sz_tup, sz_lst, all_const, beq_self_eq_true, eq_self, decide_true, iD_len, in_iD, in_iDL, filter_tt, map_idd, atI_zero, blsOf_map, intsOf_map, all_map_id, cut_tail, is_int_n, isnot_int_n, is_bl_n, isnot_bl_n, is_str_n, isnot_str_n, is_tup_n, isnot_tup_n, is_lst_n, isnot_lst_n, is_kl_n, isnot_kl_n, is_non_n, isnot_non_n, is_bl_bl, seq_ref0, lst_ref0, own_ref0, truth_ref0, ix_ref0, app_ref0, tuple_ref0, len_ref0, set_ref0, isSome_some, atI_last, ix3_0, ix3_1, ix3_2, at3_1, at3_2, isi_non_int, isi_non_bl, isi_non_str, isi_non_tup, isi_non_lst, isi_non_lst_tup, isi_non_bl_str, isi_bl_int, isi_bl_bl, isi_bl_str, isi_bl_tup, isi_bl_lst, isi_bl_lst_tup, isi_bl_bl_str, isi_int_int, isi_int_bl, isi_int_str, isi_int_tup, isi_int_lst, isi_int_lst_tup, isi_int_bl_str, isi_str_int, isi_str_bl, isi_str_str, isi_str_tup, isi_str_lst, isi_str_lst_tup, isi_str_bl_str, isi_tup_int, isi_tup_bl, isi_tup_str, isi_tup_tup, isi_tup_lst, isi_tup_lst_tup, isi_tup_bl_str, isi_lst_int, isi_lst_bl, isi_lst_str, isi_lst_tup, isi_lst_lst, isi_lst_lst_tup, isi_lst_bl_str, isi_kl_int, isi_kl_bl, isi_kl_str, isi_kl_tup, isi_kl_lst, isi_kl_lst_tup, isi_kl_bl_str, endD_rt, endD_nx, seq_tupD, seq_lstD, mm_int, q']
  have t1 : evS (C (n + 5)) (nthS b32 1) [some (.ref 0), some (.tup (iD ks)), none, none, none, none, none, none, none, none, none, none, none, none, none] (boxD a1 b c2 :: R) =
      .nx [some (.ref 0), some (.tup (iD ks)), some (.int (ks.length : Nat)), none, none, none, none, none, none, none, none, none, none, none, none] (boxD a1 b c2 :: R) := by
    simp only [b32, nthS, runB, ev_0A, ev_1A, ev_2A, ev_3A, ev_4A, ev_5A, ev_6A, ev_7A, ev_8A, ev_9A, ev_10A, ev_11A, ev_12A, ev_13A, ev_14A, ev_15A, ev_16A, ev_17A, ev_18A, ev_19A, ev_20A, ev_21A, evs_0A, evs_1A, evO_0A, evO_1A, evT_0A, evT_1A, evT_2A, evT_3A, evT_4A, evT_5A, evT_6A, evT_7A, evT_8A, evT_9A, evT_10A, evT_11A, evT_12A, evTs_0A, evTs_1A, evI_0A, evI_1A, evI_2A, evI_3A, evI_4A, evG_0A, evG_1A, evG_2A, evS_0A, evS_1A, evS_2A, evS_3A, evS_4A, evS_5A, evS_6A, evS_7A, evS_8A, evS_9A, evS_10A, bindO_ok, bindO_exn, bindO_bad, Res.bind_ok, Res.bind_exn, Res.bind_bad, Res.bindN_ok, optR_some, K0.d, EC, setN, setNs, wipeR, List.map_cons, List.map_nil, List.set_cons_zero, List.set_cons_succ, List.getElem?_cons_zero, List.getElem?_cons_succ, List.cons_append, List.nil_append, List.length_cons, List.length_nil, Option.map_some, Option.map_none, Nat.reduceAdd, Nat.reduceSub, Nat.reduceLeDiff, if_true, if_false, Bool.false_eq_true, List.replicate, evB_nil, evB_cons, seqO_nx, seqO_rt, seqO_exn, endD_exn, cmp_eq_int, cmp_ne_int, cmp_eq_bl, cmp_ne_bl, Bool.not_true, Bool.not_false, List.filterMap_cons, List.filterMap_nil, truth_bl, truth_int, truth_non, truth_tup, truth_lst, cmp_lt, cmp_le, cmp_gt, cmp_ge, cmp_in, cmp_inL, cmp_notin, ix_tup, ix_lst, ix_kl, add_int_true, sub_int_true, add_tup_true, pow_int_true, mul_tup_true, add_lst_true, sl_tup_true, sl_lst_true, sl_kl_true, len_tup_true, tuple_tup_true, list_tup_true, len_lst_true, tuple_lst_true, list_lst_true, len_kl_true, tuple_kl_true, list_kl_true, tuple_ref_true, int_int_true, int_bl_true, abs_int_true, all_lst_true, any_lst_true, sum_lst_true, max_lst_true, add_int_false, sub_int_false, add_tup_false, pow_int_false, mul_tup_false, add_lst_false, sl_tup_false, sl_lst_false, sl_kl_false, len_tup_false, tuple_tup_false, list_tup_false, len_lst_false, tuple_lst_false, list_lst_false, len_kl_false, tuple_kl_false, list_kl_false, tuple_ref_false, int_int_false, int_bl_false, abs_int_false, all_lst_false, any_lst_false, sum_lst_false, max_lst_false, newL_f, newL_t, sv_tup, sv_lst, sv_kl, se_tup, se_lst, se_kl, sz_tup, sz_lst, all_const, beq_self_eq_true, eq_self, decide_true, iD_len, in_iD, in_iDL, filter_tt, map_idd, atI_zero, blsOf_map, intsOf_map, all_map_id, cut_tail, is_int_n, isnot_int_n, is_bl_n, isnot_bl_n, is_str_n, isnot_str_n, is_tup_n, isnot_tup_n, is_lst_n, isnot_lst_n, is_kl_n, isnot_kl_n, is_non_n, isnot_non_n, is_bl_bl, seq_ref0, lst_ref0, own_ref0, truth_ref0, ix_ref0, app_ref0, tuple_ref0, len_ref0, set_ref0, isSome_some, atI_last, ix3_0, ix3_1, ix3_2, at3_1, at3_2, isi_non_int, isi_non_bl, isi_non_str, isi_non_tup, isi_non_lst, isi_non_lst_tup, isi_non_bl_str, isi_bl_int, isi_bl_bl, isi_bl_str, isi_bl_tup, isi_bl_lst, isi_bl_lst_tup, isi_bl_bl_str, isi_int_int, isi_int_bl, isi_int_str, isi_int_tup, isi_int_lst, isi_int_lst_tup, isi_int_bl_str, isi_str_int, isi_str_bl, isi_str_str, isi_str_tup, isi_str_lst, isi_str_lst_tup, isi_str_bl_str, isi_tup_int, isi_tup_bl, isi_tup_str, isi_tup_tup, isi_tup_lst, isi_tup_lst_tup, isi_tup_bl_str, isi_lst_int, isi_lst_bl, isi_lst_str, isi_lst_tup, isi_lst_lst, isi_lst_lst_tup, isi_lst_bl_str, isi_kl_int, isi_kl_bl, isi_kl_str, isi_kl_tup, isi_kl_lst, isi_kl_lst_tup, isi_kl_bl_str, endD_rt, endD_nx, seq_tupD, seq_lstD, mm_int]
  obtain ⟨row, far, a3, c3, R3, hr, hf, a30, c30, c31, t2⟩ := q2 (n := n) (ks := ks) (R := R) a10 b0 c20 (by omega) l8.1 h7
  obtain ⟨y4, t6, t7⟩ := s67 (n := n) (st := boxD a3 b c3 :: R3) (x3 := some (.lst [.tup (iD (coverR ks row)), .tup (iD (headR ks row)), .tup (iD (coverR ks row)), .tup (iD (coverR ks row)), .tup (iD (headR ks row))])) (x4 := none) (x5 := none) (x6 := none) (x11 := none) (x12 := none) (x13 := none) (x14 := none) h h7 hr hf
  obtain ⟨y5, y11, t8⟩ := s8 (n := n) (st := boxD a3 b c3 :: R3) (x3 := some (.lst [.tup (iD (coverR ks row)), .tup (iD (headR ks row)), .tup (iD (coverR ks row)), .tup (iD (coverR ks row)), .tup (iD (headR ks row))])) (x4 := y4) (x5 := none) (x6 := none) (x8 := some (.tup (iD far))) (x11 := none) (x12 := none) (x13 := none) (x14 := none) h h7 hr
  obtain ⟨y6, t9⟩ := s9 (n := n) (st := boxD a3 b c3 :: R3) (x3 := some (.lst [.tup (iD (coverR ks row)), .tup (iD (headR ks row)), .tup (iD (coverR ks row)), .tup (iD (coverR ks row)), .tup (iD (headR ks row))])) (x4 := y4) (x5 := y5) (x6 := none) (x8 := some (.tup (iD far))) (x11 := y11) (x12 := none) (x13 := none) (x14 := none) h h7 hr
  obtain ⟨u, v, a4, c4, a40, c40, c41, y3, y3', t10, t11, t12, t13⟩ := s1013 (n := n) (R := R3) (x3 := some (.lst [.tup (iD (coverR ks row)), .tup (iD (headR ks row)), .tup (iD (coverR ks row)), .tup (iD (coverR ks row)), .tup (iD (headR ks row))])) (x4 := y4) (x5 := y5) (x6 := y6) (x8 := some (.tup (iD far))) (x11 := y11) (x12 := none) (x13 := none) (x14 := none) h h7 hr a30 b0 c30 (by omega)
  refine ⟨a4, c4, R3, ?_, a40, c40, by omega⟩
  show endD (evB (C (n + 5)) (dropS b32 0) _ _) = _
  rw [step 0 _ _ (by omega), t0, seqO_nx, step 1 _ _ (by omega), t1, seqO_nx, step 2 _ _ (by omega), t2, seqO_nx, step 3 _ _ (by omega), s3 h h7 hr, seqO_nx, step 4 _ _ (by omega), s4 h h7 hr, seqO_nx, step 5 _ _ (by omega), s5 h h7 hr, seqO_nx,
    step 6 _ _ (by omega), t6, seqO_nx, step 7 _ _ (by omega), t7, seqO_nx, step 8 _ _ (by omega), t8, seqO_nx, step 9 _ _ (by omega), t9, seqO_nx, step 10 _ _ (by omega), t10, seqO_nx, step 11 _ _ (by omega), t11, seqO_nx, step 12 _ _ (by omega), t12, seqO_nx,
    step 13 _ _ (by omega), t13, seqO_rt]
  rfl
end K40
namespace K40
open PySem DL
theorem hlaw (ns : List Int) (hn : ns.length ≤ 63) : ∃ S, callN (tblOf tbl) (cnOf cis) 1000 60 33 [.kl (ns.map D.int)] [] = .ok (.bl true) S := by
  have hE : callN (tblOf tbl) (cnOf cis) 1000 60 33 [.kl (iD ns)] [] = runB (C 59) d33.fd [.kl (iD ns)] [] := callI rfl rfl rfl
  show ∃ S, callN (tblOf tbl) (cnOf cis) 1000 60 33 [.kl (iD ns)] [] = .ok (.bl true) S
  rw [hE]
  show ∃ S, runB (C 59) ⟨1, 3, false, b33⟩ _ _ = _
  obtain ⟨v, qc⟩ := e_cells (n := 58) hn (S := [])
  obtain ⟨a, b, a0, b0, qb⟩ := e_box (n := 58) (v := v)
  have qc' : callN (tblOf tbl) (cnOf cis) 1000 59 23 [.kl (iD ns), .int 1] [] = .ok (.lst [.int v]) [] := qc
  have qb' : callN (tblOf tbl) (cnOf cis) 1000 59 21 [.lst [.int v], .int 0] [] = .ok (.ref 0) [boxD a b 0] := qb
  obtain ⟨ys, S', e, a1, c1, R1, rfl, rfl, _⟩ := lc_inv (src := .rng 0 10) (tg := evG (C 59) (.name 2)) (tt := evTs (C 59) .nil) (te := ev (C 59) (.call 32 (.cons (.var 1) .nil))) (ρ := [some (.kl (iD ns)), some (.ref 0), none]) (N := 10)
    (fun i ys St => ∃ (a1 c1 : Int) (R1 : Store), ys = List.replicate i (.bl true) ∧ St = (boxD a1 b c1 :: R1) ∧ 0 ≤ a1 ∧ 0 ≤ c1 ∧ c1 ≤ 40 * (i : Int))
    (by
      rintro i ys St hi ⟨a1, c1, R1, rfl, rfl, a10, c10, c11⟩
      obtain ⟨a2, c2, R2, q, a20, c20, c21⟩ := e_right (n := 53) (c := c1) (R := R1) a10 b0 c10 (by omega)
      have q' : callN (tblOf tbl) (cnOf cis) 1000 59 32 [.ref 0] (boxD a1 b c1 :: R1) = .ok (.bl true) (boxD a2 b c2 :: R2) := q
      refine ⟨.int (i : Nat), [some (.kl (iD ns)), some (.ref 0), some (.int (i : Nat))], (boxD a1 b c1 :: R1), true, (boxD a1 b c1 :: R1), ?_, rfl, rfl, ?_⟩
      · rw [at_rng, List.getElem?_range hi]
        rfl
      · rw [if_pos rfl]
        refine ⟨.bl true, (boxD a2 b c2 :: R2), ?_, a2, c2, R2, ?_, rfl, a20, c20, by omega⟩
        · simp only [runB, ev_0A, ev_1A, ev_2A, ev_3A, ev_4A, ev_5A, ev_6A, ev_7A, ev_8A, ev_9A, ev_10A, ev_11A, ev_12A, ev_13A, ev_14A, ev_15A, ev_16A, ev_17A, ev_18A, ev_19A, ev_20A, ev_21A, evs_0A, evs_1A, evO_0A, evO_1A, evT_0A, evT_1A, evT_2A, evT_3A, evT_4A, evT_5A, evT_6A, evT_7A, evT_8A, evT_9A, evT_10A, evT_11A, evT_12A, evTs_0A, evTs_1A, evI_0A, evI_1A, evI_2A, evI_3A, evI_4A, evG_0A, evG_1A, evG_2A, evS_0A, evS_1A, evS_2A, evS_3A, evS_4A, evS_5A, evS_6A, evS_7A, evS_8A, evS_9A, evS_10A, bindO_ok, bindO_exn, bindO_bad, Res.bind_ok, Res.bind_exn, Res.bind_bad, Res.bindN_ok, optR_some, K0.d, EC, setN, setNs, wipeR, List.map_cons, List.map_nil, List.set_cons_zero, List.set_cons_succ, List.getElem?_cons_zero, List.getElem?_cons_succ, List.cons_append, List.nil_append, List.length_cons, List.length_nil, Option.map_some, Option.map_none, Nat.reduceAdd, Nat.reduceSub, Nat.reduceLeDiff, if_true, if_false, Bool.false_eq_true, List.replicate, evB_nil, evB_cons, seqO_nx, seqO_rt, seqO_exn, endD_exn, cmp_eq_int, cmp_ne_int, cmp_eq_bl, cmp_ne_bl, Bool.not_true, Bool.not_false, List.filterMap_cons, List.filterMap_nil, truth_bl, truth_int, truth_non, truth_tup, truth_lst, cmp_lt, cmp_le, cmp_gt, cmp_ge, cmp_in, cmp_inL, cmp_notin, ix_tup, ix_lst, ix_kl, add_int_true, sub_int_true, add_tup_true, pow_int_true, mul_tup_true, add_lst_true, sl_tup_true, sl_lst_true, sl_kl_true, len_tup_true, tuple_tup_true, list_tup_true, len_lst_true, tuple_lst_true, list_lst_true, len_kl_true, tuple_kl_true, list_kl_true, tuple_ref_true, int_int_true, int_bl_true, abs_int_true, all_lst_true, any_lst_true, sum_lst_true, max_lst_true, add_int_false, sub_int_false, add_tup_false, pow_int_false, mul_tup_false, add_lst_false, sl_tup_false, sl_lst_false, sl_kl_false, len_tup_false, tuple_tup_false, list_tup_false, len_lst_false, tuple_lst_false, list_lst_false, len_kl_false, tuple_kl_false, list_kl_false, tuple_ref_false, int_int_false, int_bl_false, abs_int_false, all_lst_false, any_lst_false, sum_lst_false, max_lst_false, newL_f, newL_t, sv_tup, sv_lst, sv_kl, se_tup, se_lst, se_kl, sz_tup, sz_lst, all_const, beq_self_eq_true, eq_self, decide_true, iD_len, in_iD, in_iDL, filter_tt, map_idd, atI_zero, blsOf_map, intsOf_map, all_map_id, cut_tail, is_int_n, isnot_int_n, is_bl_n, isnot_bl_n, is_str_n, isnot_str_n, is_tup_n, isnot_tup_n, is_lst_n, isnot_lst_n, is_kl_n, isnot_kl_n, is_non_n, isnot_non_n, is_bl_bl, seq_ref0, lst_ref0, own_ref0, truth_ref0, ix_ref0, app_ref0, tuple_ref0, len_ref0, set_ref0, isSome_some, atI_last, ix3_0, ix3_1, ix3_2, at3_1, at3_2, isi_non_int, isi_non_bl, isi_non_str, isi_non_tup, isi_non_lst, isi_non_lst_tup, isi_non_bl_str, isi_bl_int, isi_bl_bl, isi_bl_str, isi_bl_tup, isi_bl_lst, isi_bl_lst_tup, isi_bl_bl_str, isi_int_int, isi_int_bl, isi_int_str, isi_int_tup, isi_int_lst, isi_int_lst_tup, isi_int_bl_str, isi_str_int, isi_str_bl, isi_str_str, isi_str_tup, isi_str_lst, isi_str_lst_tup, isi_str_bl_str, isi_tup_int, isi_tup_bl, isi_tup_str, isi_tup_tup, isi_tup_lst, isi_tup_lst_tup, isi_tup_bl_str, isi_lst_int, isi_lst_bl, isi_lst_str, isi_lst_tup, isi_lst_lst, isi_lst_lst_tup, isi_lst_bl_str, isi_kl_int, isi_kl_bl, isi_kl_str, isi_kl_tup, isi_kl_lst, isi_kl_lst_tup, isi_kl_bl_str, endD_rt, endD_nx, seq_tupD, seq_lstD, mm_int, q']
        · rw [List.replicate_succ'])
    (by
      rintro ys St ⟨a1, c1, R1, rfl, rfl, _⟩
      rfl)
    1000 0 [] [boxD a b 0] (by omega) (by omega) ⟨a, 0, [], rfl, rfl, a0, by omega, by omega⟩
  have al : ∀ S : Store, biD false .all (.lst (List.replicate 10 (.bl true))) S = .ok (.bl true) S := fun S => rfl
  have sr : srcRange [.int 10] = some (.rng 0 10) := rfl
  generalize hR : (List.replicate 10 (D.bl true)) = R3 at *
  refine ⟨boxD a1 b c1 :: R1, ?_⟩
  simp only [b33, runB, ev_0A, ev_1A, ev_2A, ev_3A, ev_4A, ev_5A, ev_6A, ev_7A, ev_8A, ev_9A, ev_10A, ev_11A, ev_12A, ev_13A, ev_14A, ev_15A, ev_16A, ev_17A, ev_18A, ev_19A, ev_20A, ev_21A, evs_0A, evs_1A, evO_0A, evO_1A, evT_0A, evT_1A, evT_2A, evT_3A, evT_4A, evT_5A, evT_6A, evT_7A, evT_8A, evT_9A, evT_10A, evT_11A, evT_12A, evTs_0A, evTs_1A, evI_0A, evI_1A, evI_2A, evI_3A, evI_4A, evG_0A, evG_1A, evG_2A, evS_0A, evS_1A, evS_2A, evS_3A, evS_4A, evS_5A, evS_6A, evS_7A, evS_8A, evS_9A, evS_10A, bindO_ok, bindO_exn, bindO_bad, Res.bind_ok, Res.bind_exn, Res.bind_bad, Res.bindN_ok, optR_some, K0.d, EC, setN, setNs, wipeR, List.map_cons, List.map_nil, List.set_cons_zero, List.set_cons_succ, List.getElem?_cons_zero, List.getElem?_cons_succ, List.cons_append, List.nil_append, List.length_cons, List.length_nil, Option.map_some, Option.map_none, Nat.reduceAdd, Nat.reduceSub, Nat.reduceLeDiff, if_true, if_false, Bool.false_eq_true, List.replicate, evB_nil, evB_cons, seqO_nx, seqO_rt, seqO_exn, endD_exn, cmp_eq_int, cmp_ne_int, cmp_eq_bl, cmp_ne_bl, Bool.not_true, Bool.not_false, List.filterMap_cons, List.filterMap_nil, truth_bl, truth_int, truth_non, truth_tup, truth_lst, cmp_lt, cmp_le, cmp_gt, cmp_ge, cmp_in, cmp_inL, cmp_notin, ix_tup, ix_lst, ix_kl, add_int_true, sub_int_true, add_tup_true, pow_int_true, mul_tup_true, add_lst_true, sl_tup_true, sl_lst_true, sl_kl_true, len_tup_true, tuple_tup_true, list_tup_true, len_lst_true, tuple_lst_true, list_lst_true, len_kl_true, tuple_kl_true, list_kl_true, tuple_ref_true, int_int_true, int_bl_true, abs_int_true, all_lst_true, any_lst_true, sum_lst_true, max_lst_true, add_int_false, sub_int_false, add_tup_false, pow_int_false, mul_tup_false, add_lst_false, sl_tup_false, sl_lst_false, sl_kl_false, len_tup_false, tuple_tup_false, list_tup_false, len_lst_false, tuple_lst_false, list_lst_false, len_kl_false, tuple_kl_false, list_kl_false, tuple_ref_false, int_int_false, int_bl_false, abs_int_false, all_lst_false, any_lst_false, sum_lst_false, max_lst_false, newL_f, newL_t, sv_tup, sv_lst, sv_kl, se_tup, se_lst, se_kl, sz_tup, sz_lst, all_const, beq_self_eq_true, eq_self, decide_true, iD_len, in_iD, in_iDL, filter_tt, map_idd, atI_zero, blsOf_map, intsOf_map, all_map_id, cut_tail, is_int_n, isnot_int_n, is_bl_n, isnot_bl_n, is_str_n, isnot_str_n, is_tup_n, isnot_tup_n, is_lst_n, isnot_lst_n, is_kl_n, isnot_kl_n, is_non_n, isnot_non_n, is_bl_bl, seq_ref0, lst_ref0, own_ref0, truth_ref0, ix_ref0, app_ref0, tuple_ref0, len_ref0, set_ref0, isSome_some, atI_last, ix3_0, ix3_1, ix3_2, at3_1, at3_2, isi_non_int, isi_non_bl, isi_non_str, isi_non_tup, isi_non_lst, isi_non_lst_tup, isi_non_bl_str, isi_bl_int, isi_bl_bl, isi_bl_str, isi_bl_tup, isi_bl_lst, isi_bl_lst_tup, isi_bl_bl_str, isi_int_int, isi_int_bl, isi_int_str, isi_int_tup, isi_int_lst, isi_int_lst_tup, isi_int_bl_str, isi_str_int, isi_str_bl, isi_str_str, isi_str_tup, isi_str_lst, isi_str_lst_tup, isi_str_bl_str, isi_tup_int, isi_tup_bl, isi_tup_str, isi_tup_tup, isi_tup_lst, isi_tup_lst_tup, isi_tup_bl_str, isi_lst_int, isi_lst_bl, isi_lst_str, isi_lst_tup, isi_lst_lst, isi_lst_lst_tup, isi_lst_bl_str, isi_kl_int, isi_kl_bl, isi_kl_str, isi_kl_tup, isi_kl_lst, isi_kl_lst_tup, isi_kl_bl_str, endD_rt, endD_nx, seq_tupD, seq_lstD, mm_int, Int.reduceNeg, qc', qb', sr, e, al]
end K40
namespace K40
open PySem PySem.Spec PyProof.Rows DL L2
def loose0 : List Str := "__name__" :: "Unfit" :: "is_number" :: "is_within" :: "are_numbers" :: "ascends" :: "tupled" :: "joined" :: "set_of" :: "MOST_KINDS" :: "is_kinds" :: "sure_kinds" :: "sure_kind" :: "line_in" :: "is_under_in" :: "under_in" :: "is_under" :: "under_kinds" :: "is_kind_set" :: "sure_kind_set" :: "covered_in" :: "heads_in" :: "covered_kinds" :: "head_kinds" :: "_law_box" :: "_law_take" :: "_law_cells" :: "_law_pick" :: "_law_lists" :: "_law_same" :: "_law_kinds" :: "_law_line" :: "_law_set" :: "_law_cover" :: "_law_heads" :: "_law_right" :: []
def loose : List Str := loose0
abbrev R : PySem.W.OpenRow := PySem.W.OpenLaw.row PySem.Challenge.rw_thrownkinds_k40_main_covers_of_kinds
abbrev fa : List He.Fa := faOf tbl bns cls cis
abbrev fnD : List He.DefD := tbl.map hdOf
abbrev hk : PySem.W.Hook := He.hookD 4 fa fnD
def ob (s : PySem.W.SharedT) : He.AlD := He.obsDG 4 fa fnD (HandSHeadRun.getT s)
theorem ob_eq (s : PySem.W.SharedT) : ob s = hk.obs s.abs := He.obsDG_eq (HandSHeadRun.getT_eq s)
theorem run (w : World) : HandSHeadRun.RunEq R (PySem.W.view R.prog [40]) hk ob 4000 loose w := by
  intro os
  kernel_rfl
end K40
open PySem PySem.W PySem.Calls PyProof.Rows
theorem PySem.Challenge.cw_thrownkinds_k40_main_covers_of_kinds_holds : PySem.Challenge.rw_thrownkinds_k40_main_covers_of_kinds.Holds := by
  w_on; o_law
  refine HandSHeadRun.head_any (r := OpenLaw.row PySem.Challenge.rw_thrownkinds_k40_main_covers_of_kinds) (q := view (OpenLaw.row PySem.Challenge.rw_thrownkinds_k40_main_covers_of_kinds).prog [40]) (H := K40.hk) (ob := K40.ob) (M := 4000) (loose := K40.loose) (d := HandSHeadRun.topDef (OpenLaw.row PySem.Challenge.rw_thrownkinds_k40_main_covers_of_kinds).prog 40) (kwd := []) K40.ob_eq
    (by kernel_rfl) (fun s => by kernel_rfl) K40.run (by kernel_rfl) (by kernel_rfl) (by kernel_rfl) (by rfl) (by first | assumption | decide +kernel) (by decide +kernel) ⟨rfl, rfl, rfl, rfl, rfl, by decide +kernel⟩ ?hw ?hc
  case hw => w_witness2
  case hc =>
    refine L2.walk_ofE (l := PySem.Challenge.rw_thrownkinds_k40_main_covers_of_kinds) (n := 63) (k := 60) (x := "script") (CX := L2.CX0) rfl (by decide) (by kernel_rfl) ⟨rfl, by decide, by decide⟩ ?F (fun _ _ _ _ z => z)
    intro w mg fa h Y G hmg0
    obtain ⟨K, KX, c⟩ := Y
    have hmg : mg K40.d33.name = some (.ref fa) := by
      have e : (HandSHeadRun.topDef (OpenLaw.row PySem.Challenge.rw_thrownkinds_k40_main_covers_of_kinds).prog 40).name = K40.d33.name := by kernel_rfl
      rw [← e]
      exact hmg0
    obtain ⟨fd, sp, hb, hs, hF⟩ := DL.law_F (P := (PySem.Challenge.rw_thrownkinds_k40_main_covers_of_kinds).prog) (w := w) (li := 33) (n := 60) (n0 := 1000) (d := K40.d33) KX G c (by decide +kernel) (by decide +kernel) K40.oks rfl rfl hmg (by decide) K40.hlaw
    exact ⟨K, fd, sp, KX, hb, fun H a ns hl _ hS => hs H a ns hl hS, fun base _ _ => hF base⟩
