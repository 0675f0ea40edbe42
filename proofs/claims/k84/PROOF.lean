import PyProof.Rows.All
import Wide.All
import OpenK.AllK
import Wide.FinOn
import HandS.ForMost
import HandS.Deep
import KE.SortData
import HandS.Lambda
import HandS.ForExc
import HandS.Style
import HandS.IsInst
import HandS.Conv
import PyProof.Rows.RuleB_pow
import HandS.WideBits
import HandS.Wide
import KE.LtSeq
import HandS.Zip
import KE.GoesEnumKw
import PyProof.Rows.CallKwBuiltin
import HandS.ExcCtx
import KE.KExcIs
import PyProof.ReprRoads
import HandS.RaiseMore
import HandS.Sort
import HandS.Defaults
import HandS.SetFor
import PyProof.Rows.RuleM_int
import HandS.Small
import HandS.ExcValue
import KE.KExcSuper
import HandS.ExcInit
import HandS.ExcSuper
import HandS.Ends
import HandS.HeadEnd
import HandS.HeadHook1
import HandS.HeadHook2
import HandS.HeadHook4
import HandS.Codes
import HandS.Head0
import HandS.Head1
import HandS.Head2
import KE.KStateDown
import KE.Datum
import KE.IntTextLaws
import PyProof.StrLawsIn
import PyProof.StrLawsOccR
import PyProof.FitsReplace
import PyProof.StrLawsRepr
import PyProof.ReprReads
import HandS.NamedTupSort
import PyProof.ReprLen
import PySem.Challenge.RW_holestold_k84_shells_refused
set_option Elab.async false
set_option linter.all false
section
set_option maxRecDepth 100000
set_option maxHeartbeats 4000000
/-! MPCore: a small evaluator: values are trees, what changes stands in a store of cells. -/
namespace MP
open PySem

/-- a value -/
inductive D where
  | non | bl (b : Bool) | int (i : Int) | str (s : Str)
  | lst (ds : List D) | tup (ds : List D)
  | dic (kvs : List (L2.Key × D))
  | scr (ns : List Int)
  | cel (k : Nat)
  | exv (c : Nat) (d : D)
  | fn (f : Nat)
  /-- a lambda, with the values that it holds -/
  | clo (j : Nat) (ds : List D)

/-- an object that changes -/
inductive Cell where
  | lst (ds : List D)
  | dic (kvs : List (L2.Key × D))
  | gone
abbrev Store := List Cell
abbrev Sl := List (Option D)

/-- what comes of a step: a value; an exception of class c with the value d; or nothing is said -/
inductive R (α : Type) where
  | ok (a : α) (st : Store)
  | exc (c : Nat) (d : D) (st : Store)
  | bad
def R.bind {α β : Type} (r : R α) (f : α → Store → R β) : R β := match r with
  | .ok a st => f a st
  | .exc c d st => .exc c d st
  | .bad => .bad
@[simp] theorem R.bind_ok {α β : Type} {a : α} {st : Store} {f : α → Store → R β} : (R.ok a st).bind f = f a st := (rfl)
@[simp] theorem R.bind_exc {α β : Type} {c : Nat} {d : D} {st : Store} {f : α → Store → R β} : (R.exc c d st : R α).bind f = .exc c d st := (rfl)
@[simp] theorem R.bind_bad {α β : Type} {f : α → Store → R β} : (R.bad : R α).bind f = .bad := (rfl)
def ofO {α : Type} (o : Option α) (st : Store) : R α := match o with
  | some a => .ok a st
  | none => .bad
@[simp] theorem ofO_some {α : Type} {a : α} {st : Store} : ofO (some a) st = .ok a st := (rfl)
@[simp] theorem ofO_none {α : Type} {st : Store} : ofO (none : Option α) st = .bad := (rfl)

/-! ### data -/
mutual
def pureD : D → Bool
  | .non => true
  | .bl _ => true
  | .int _ => true
  | .str _ => true
  | .lst ds => pureDs ds
  | .tup ds => pureDs ds
  | _ => false
def pureDs : List D → Bool
  | [] => true
  | d :: ds => pureD d && pureDs ds
end
mutual
def toP : D → PyData
  | .non => .none
  | .bl b => .bool b
  | .int i => .int i
  | .str s => .str s
  | .lst ds => .list (toPs ds)
  | .tup ds => .tuple (toPs ds)
  | _ => .none
def toPs : List D → List PyData
  | [] => []
  | d :: ds => toP d :: toPs ds
end
theorem toPs_map : ∀ ds : List D, toPs ds = ds.map toP
  | [] => by simp [toPs]
  | d :: ds => by simp [toPs, toPs_map ds]
theorem pureDs_all : ∀ ds : List D, pureDs ds = ds.all pureD
  | [] => by simp [pureDs]
  | d :: ds => by simp [pureDs, pureDs_all ds]

mutual
/-- no cell, no lambda within -/
def bareD : D → Bool
  | .non => true
  | .bl _ => true
  | .int _ => true
  | .str _ => true
  | .lst ds => bareDs ds
  | .tup ds => bareDs ds
  | .dic ds => bareDk ds
  | .scr _ => true
  | .fn _ => true
  | _ => false
def bareDs : List D → Bool
  | [] => true
  | d :: ds => bareD d && bareDs ds
def bareDk : List (L2.Key × D) → Bool
  | [] => true
  | (_, d) :: ds => bareD d && bareDk ds
end
mutual
/-- no cell within -/
def freeD : D → Bool
  | .non => true
  | .bl _ => true
  | .int _ => true
  | .str _ => true
  | .lst ds => freeDs ds
  | .tup ds => freeDs ds
  | .dic ds => freeDk ds
  | .scr _ => true
  | .fn _ => true
  | .clo _ ds => bareDs ds
  | _ => false
def freeDs : List D → Bool
  | [] => true
  | d :: ds => freeD d && freeDs ds
def freeDk : List (L2.Key × D) → Bool
  | [] => true
  | (_, d) :: ds => freeD d && freeDk ds
end
/-- the items of a list -/
def items (st : Store) : D → Option (List D)
  | .lst ds => some ds
  | .cel k => match st[k]? with
    | some (.lst ds) => some ds
    | _ => none
  | _ => none
/-- what is read of a value as plain data -/
def snap (st : Store) : D → Option D
  | .cel k => match st[k]? with
    | some (.lst ds) => if pureDs ds then some (.lst ds) else none
    | _ => none
  | d => if pureD d then some d else none

/-! ### the same tree -/
mutual
def same : D → D → Bool
  | .non, .non => true
  | .bl a, .bl b => a == b
  | .int a, .int b => decide (a = b)
  | .str a, .str b => decide (a = b)
  | .lst a, .lst b => sameL a b
  | .tup a, .tup b => sameL a b
  | .dic a, .dic b => sameK a b
  | .scr a, .scr b => decide (a = b)
  | .cel a, .cel b => decide (a = b)
  | .exv c a, .exv d b => decide (c = d) && same a b
  | .fn a, .fn b => decide (a = b)
  | .clo i a, .clo j b => decide (i = j) && sameL a b
  | _, _ => false
def sameL : List D → List D → Bool
  | [], [] => true
  | a :: r, b :: q => same a b && sameL r q
  | _, _ => false
def sameK : List (L2.Key × D) → List (L2.Key × D) → Bool
  | [], [] => true
  | (j, a) :: r, (k, b) :: q => decide (j = k) && (same a b && sameK r q)
  | _, _ => false
end
mutual
theorem same_eq : ∀ {a b : D}, same a b = true → a = b
  | a, b, h => by
    cases a <;> cases b <;> simp [same] at h <;> first
      | rfl
      | (subst h; rfl)
      | (rw [sameL_eq h])
      | (rw [sameK_eq h])
      | (obtain ⟨h1, h2⟩ := h; subst h1; rw [same_eq h2])
      | (obtain ⟨h1, h2⟩ := h; subst h1; rw [sameL_eq h2])
theorem sameL_eq : ∀ {a b : List D}, sameL a b = true → a = b
  | [], [], _ => rfl
  | [], _ :: _, h => by simp [sameL] at h
  | _ :: _, [], h => by simp [sameL] at h
  | a :: r, b :: q, h => by
    simp [sameL] at h
    rw [same_eq h.1, sameL_eq h.2]
theorem sameK_eq : ∀ {a b : List (L2.Key × D)}, sameK a b = true → a = b
  | [], [], _ => rfl
  | [], _ :: _, h => by simp [sameK] at h
  | _ :: _, [], h => by simp [sameK] at h
  | (j, a) :: r, (k, b) :: q, h => by
    simp [sameK] at h
    rw [h.1, same_eq h.2.1, sameK_eq h.2.2]
end
mutual
theorem same_refl : ∀ a : D, same a a = true
  | .non | .bl _ | .int _ | .str _ | .scr _ | .cel _ | .fn _ => by simp [same]
  | .lst a | .tup a => by simp [same, sameL_refl a]
  | .dic a => by simp [same, sameK_refl a]
  | .exv c a => by simp [same, same_refl a]
  | .clo j a => by simp [same, sameL_refl a]
theorem sameL_refl : ∀ a : List D, sameL a a = true
  | [] => by simp [sameL]
  | a :: r => by simp [sameL, same_refl a, sameL_refl r]
theorem sameK_refl : ∀ a : List (L2.Key × D), sameK a a = true
  | [] => by simp [sameK]
  | (j, a) :: r => by simp [sameK, same_refl a, sameK_refl r]
end
end MP
end
section
set_option maxRecDepth 100000
set_option maxHeartbeats 4000000
/-! MPEv: the compact trees and what they come to. -/
namespace MP
open PySem

inductive Bo where | add | sub | mul | fdv | mod | pow
inductive Co where | lt | le | gt | ge | eq | ne | isin | nin | is_ | isn
inductive Ty where | int | bool | str | list | tuple | dict | exc (c : Nat) | ver
inductive Bf where
  | len | any | all | sum | sorted | int | str | list | tuple | max2 | min2 | max | abs | isi (t : Ty) | isis (ts : List Ty) | repr | lrng | ord | sum2
inductive Mt where | append | pop | popAt | index | count | join | split | bits

mutual
inductive Ex where
  | nm (i : Nat) | kn (d : D) | con (g : Nat)
  | bin (op : Bo) (a b : Ex) | neg (a : Ex)
  | cmp (op : Co) (a b : Ex) | chn (o p : Co) (a b c : Ex)
  | and (a b : Ex) | or (a b : Ex) | not (a : Ex) | ife (c a b : Ex)
  | lst (es : Exs) | tup (es : Exs) | dic0
  | sub (a b : Ex) | slc (a : Ex) (lo hi : Ox) | rev (a : Ex) | rvb (a : Ex) (n : Nat)
  | lc (x : Ex) (tg : List Nat) (tp : Bool) (s : Sr) (i : Ox) (own : List Nat)
  | cal (f : Nat) (es : Exs)
  | fn (f : Nat)
  | cav (i : Nat) (es : Exs)
  | cac (i : Nat) (es : Exs)
  | cll (f j : Nat) (is : List Nat) (es : Exs)
  | cak (f : Nat) (es ks : Exs) (ix : List Nat)
  | val (e : Ex)
  | pur (f : Nat) (es : Exs)
  | blt (b : Bf) (es : Exs)
  | met (m : Mt) (a : Ex) (es : Exs)
  | mk (e : Ex)
  | frz (e : Ex)
inductive Exs where
  | nil
  | cons (e : Ex) (es : Exs)
inductive Ox where
  | non
  | som (e : Ex)
inductive Sr where
  | lis (e : Ex) | tpl (e : Ex) | txt (e : Ex) | rg1 (e : Ex) | rg2 (a b : Ex) | enu (e : Ex) | zip (strict : Bool) (a b : Ex)
end

/-- what an except clause does with what it caught: keep it in a slot; put its value, or its value's repr, into a slot; append it -/
inductive Hn where
  | keep (j : Nat) | put (j : Nat) (r : Bool) | add (j : Nat) (r : Bool)
mutual
inductive Sm where
  | set (i : Nat) (e : Ex)
  | par (is : List Nat) (es : Exs)
  | unp (is : List Nat) (e : Ex)
  | sti (a i e : Ex)
  | aug (i : Nat) (op : Bo) (e : Ex)
  | agi (a i : Ex) (op : Bo) (e : Ex)
  | exp (e : Ex)
  | ret (e : Ex)
  | ife (c : Ex) (a b : Sms)
  | for_ (tg : List Nat) (tp : Bool) (s : Sr) (b : Sms)
  | whl (c : Ex) (b : Sms)
  | brk | cnt | pas
  | rai (c : Nat) (e : Ex)
  | tri (b : Sms) (cs no : List Nat) (i : Nat) (h : Hn)
  | mkl (js : List (Nat × List Nat))
inductive Sms where
  | nil
  | cons (s : Sm) (ss : Sms)
end

def line : Nat := 16777216
/-! ### operations on values -/
def okMul (i j : Int) : Bool := (decide (-(2 ^ 64) < i) && decide (i < 2 ^ 64)) || (decide (-(2 ^ 64) < j) && decide (j < 2 ^ 64))
def binI (op : Bo) (i j : Int) : Option D := match op with
  | .add => some (.int (i + j))
  | .sub => some (.int (i - j))
  | .mul => if okMul i j then some (.int (i * j)) else none
  | .fdv => if decide (0 < j) && decide (j < 1073741824) then some (.int (i / j)) else none
  | .mod => if 0 < j then some (.int (i % j)) else none
  | .pow => if decide (0 ≤ j) && decide ((Builtin.Int.intBits i : Int) * j ≤ 134217728) then some (.int (i ^ j.toNat)) else none
def binD (st : Store) (op : Bo) : D → D → Option D
  | .int i, .int j => binI op i j
  | .str x, .str y => match op with
    | .add => if x.length + y.length ≤ line then some (.str (x ++ y)) else none
    | _ => none
  | .str x, .int n => match op with
    | .mul => if decide (2 ≤ n) && decide (n ≤ 1000000) && decide (0 < x.length) && decide (x.length * n.toNat ≤ line) then some (.str (Txt.mul x n)) else none
    | _ => none
  | .tup xs, .tup ys => match op with
    | .add => if decide (xs.length + ys.length ≤ line) && !xs.isEmpty && !ys.isEmpty then some (.tup (xs ++ ys)) else none
    | _ => none
  | a, .int k => match op, items st a with
    | .mul, some xs => if decide (-(2 ^ 63) ≤ k) && decide (k < 2 ^ 63) && decide (xs.length * k.toNat ≤ line) then some (.lst (List.replicate k.toNat xs).flatten) else none
    | _, _ => none
  | a, b => match op, items st a, items st b with
    | .add, some xs, some ys => if xs.length + ys.length ≤ line then some (.lst (xs ++ ys)) else none
    | _, _, _ => none
def flatD : D → Bool
  | .non => true
  | .bl _ => true
  | .int _ => true
  | .str _ => true
  | _ => false
/-- == on plain data -/
def eqD (st : Store) (a b : D) : Option Bool := match snap st a, snap st b with
  | some x, some y => if SeqAt.shaped (toP x) && SeqAt.shaped (toP y) then some (PyData.eqv (toP x) (toP y)) else none
  | _, _ => none
def intsD : List D → Option (List Int)
  | [] => some []
  | .int i :: r => (intsD r).map (i :: ·)
  | _ => none
def blsD : List D → Option (List Bool)
  | [] => some []
  | .bl i :: r => (blsD r).map (i :: ·)
  | _ => none
def strsD : List D → Option (List Str)
  | [] => some []
  | .str i :: r => (strsD r).map (i :: ·)
  | _ => none
def ltD (st : Store) (a b : D) : Option Bool := match a, b with
  | .int i, .int j => some (decide (i < j))
  | _, _ => match (items st a).bind intsD, (items st b).bind intsD with
    | some xs, some ys => some (HT.lexLt xs ys)
    | _, _ => none
/-- a dict's keys -/
def dHas (kvs : List (L2.Key × D)) (k : L2.Key) : Bool := kvs.any fun kv => decide (kv.1 = k)
def dPut (kvs : List (L2.Key × D)) (k : L2.Key) (d : D) : List (L2.Key × D) := if dHas kvs k = true then kvs.map (fun kv => if kv.1 = k then (kv.1, d) else kv) else kvs ++ [(k, d)]
/-- the dict of a cell -/
def dicAt (st : Store) (b : D) : Option (List (L2.Key × D)) := match b with
  | .cel k => match st[k]? with
    | some (.dic kvs) => some kvs
    | _ => none
  | _ => none
def keyD (a : D) : Option L2.Key := match a with
  | .str x => some (.inr x)
  | _ => none
def inD (st : Store) (a b : D) : Option Bool := match dicAt st b with
  | some kvs => (keyD a).map fun k => dHas kvs k
  | none => match b with
  | .str y => match a with
    | .str x => some (!(Builtin.Str.occurrences y x 0 y.length 1).isEmpty)
    | _ => none
  | .tup ys => if flatD a && ys.all flatD then some ((toPs ys).any fun z => PyData.eqv z (toP a)) else none
  | _ => match snap st a, snap st b with
    | some x, some (.lst ys) => if SeqAt.shaped (toP x) && SeqAt.shaped (.list (toPs ys)) then some ((toPs ys).any fun z => PyData.eqv z (toP x)) else none
    | _, _ => none
def nonB : D → Bool
  | .non => true
  | _ => false
def blB (b : Bool) : D → Bool
  | .bl a => decide (a = b)
  | _ => false
def isD (a b : D) : Option Bool := match b with
  | .non => some (nonB a)
  | .bl b => some (blB b a)
  | _ => none
def cmpD (st : Store) (op : Co) (a b : D) : Option Bool := match op with
  | .eq => eqD st a b
  | .ne => (eqD st a b).map (!·)
  | .isin => inD st a b
  | .nin => (inD st a b).map (!·)
  | .is_ => isD a b
  | .isn => (isD a b).map (!·)
  | .lt => ltD st a b
  | .le => match a, b with
    | .int i, .int j => some (decide (i ≤ j))
    | _, _ => none
  | .gt => match a, b with
    | .int i, .int j => some (decide (j < i))
    | _, _ => none
  | .ge => match a, b with
    | .int i, .int j => some (decide (j ≤ i))
    | _, _ => none
def subD (st : Store) (a b : D) : Option D := match a, b with
  | .tup xs, .int i => L2.atI xs i
  | .str z, .int i => if z.length ≤ line then (L2.atI z.cps.toList i).map fun c => .str ⟨#[c]⟩ else none
  | .scr ns, .int i => (L2.atI ns i).map .int
  | a, .int i => (items st a).bind fun xs => L2.atI xs i
  | _, _ => none
def cutL {α : Type} (xs : List α) (lo hi : Option Int) : List α := (xs.drop (HT.sIx xs.length 0 lo)).take (HT.sIx xs.length xs.length hi - HT.sIx xs.length 0 lo)

def slcD (st : Store) (x : D) (l h : Option Int) : Option D := match x with
  | .scr ns => some (.lst ((cutL ns l h).map .int))
  | .tup xs => if HT.sIx xs.length 0 l = 0 ∧ HT.sIx xs.length xs.length h = xs.length then none else some (.tup (cutL xs l h))
  | .str z => if z.length ≤ line then some (.str (L2.cutS z l h)) else none
  | _ => (items st x).map fun xs => .lst (cutL xs l h)
/-! ### built-in functions, methods -/
def lenD (st : Store) : D → Option Nat
  | .tup xs => some xs.length
  | .str z => if z.length ≤ line then some z.length else none
  | .scr ns => some ns.length
  | .cel k => match st[k]? with
    | some (.lst ds) => some ds.length
    | _ => none
  | .lst ds => some ds.length
  | _ => none
def tyIs (st : Store) (t : Ty) : D → Option Bool
  | .non => some false
  | .bl _ => some (match t with | .int => true | .bool => true | _ => false)
  | .int _ => some (match t with | .int => true | _ => false)
  | .str _ => some (match t with | .str => true | _ => false)
  | .lst _ => some (match t with | .list => true | _ => false)
  | .tup _ => some (match t with | .tuple => true | _ => false)
  | .dic _ => some (match t with | .dict => true | _ => false)
  | .cel k => match st[k]? with
    | some (.lst _) => some (match t with | .list => true | _ => false)
    | some (.dic _) => some (match t with | .dict => true | _ => false)
    | _ => none
  | _ => none
/-- an exception of the class k -/
def isX (k : Nat) : D → Option Bool
  | .exv c _ => some (decide (c = k) || decide (k = 0))
  | _ => none
/-- a ValueError, as all of them are -/
def isV : D → Option Bool
  | .exv _ _ => some true
  | _ => none
def isiD (st : Store) (t : Ty) (d : D) : Option Bool := match t with
  | .exc k => isX k d
  | .ver => isV d
  | t => tyIs st t d
def tysIs (st : Store) : List Ty → D → Option Bool
  | [], _ => some false
  | t :: ts, d => match tyIs st t d, tysIs st ts d with
    | some a, some b => some (a || b)
    | _, _ => none
def mapO (f : D → Option PyData) : List D → Option (List PyData)
  | [] => some []
  | d :: ds => (f d).bind fun x => (mapO f ds).map fun xs => x :: xs
/-- the value as data, cells put in -/
def thaw (st : Store) : Nat → D → Option PyData
  | _, .non => some .none
  | _, .bl b => some (.bool b)
  | _, .int i => some (.int i)
  | _, .str s => some (.str s)
  | n + 1, .lst ds => (mapO (thaw st n) ds).map .list
  | n + 1, .tup ds => (mapO (thaw st n) ds).map .tuple
  | n + 1, .cel k => match st[k]? with
    | some (.lst ds) => (mapO (thaw st n) ds).map .list
    | _ => none
  | _, _ => none
/-- repr -/
def reprD (st : Store) (d : D) : Option Str := match d with
  | .dic [] => some (PyData.dict []).shown
  | d => (thaw st 9 d).bind fun x => if x.showable && decide (x.depth ≤ 64) && decide (x.shown.length ≤ line) then some x.shown else none
def alikeAll (ds : List PyData) : Bool := ds.all fun a => ds.all fun b => PySem.W.alike a b
def sortB (ds : List PyData) : Bool := (ds.all fun d => match d with
    | .tuple (_ :: _) => true
    | _ => false) || (ds.all fun d => match d with
    | .none => false
    | .tuple _ => false
    | _ => true)
def deepOk (ds : List PyData) : Bool := ds.all fun d => decide (d.depth ≤ 64)
def sortD (st : Store) (d : D) : Option D := match snap st d with
  | some (.lst ds) => if alikeAll (toPs ds) && sortB (toPs ds) && deepOk (toPs ds) && decide (ds.length ≤ line) then some (.lst (ds.mergeSort (PySem.W.dataLe false toP))) else none
  | _ => none
def maxI : List Int → Option Int
  | [] => none
  | [a] => some a
  | a :: r => (maxI r).map fun b => if a < b then b else a
def bltD (st : Store) (b : Bf) (as : List D) : Option D := match b, as with
  | .len, [a] => (lenD st a).map fun (n : Nat) => .int (n : Int)
  | .any, [a] => ((items st a).bind blsD).map fun bs => .bl (bs.any id)
  | .all, [a] => ((items st a).bind blsD).map fun bs => .bl (bs.all id)
  | .sum, [a] => match a with
    | .scr ns => some (.int ns.sum)
    | _ => ((items st a).bind intsD).map fun ns => .int ns.sum
  | .max, [a] => ((items st a).bind intsD).bind fun ns => (maxI ns).map .int
  | .max2, [.int i, .int j] => some (.int (if j > i then j else i))
  | .min2, [.int i, .int j] => some (.int (if j < i then j else i))
  | .abs, [.int i] => some (.int (if i < 0 then -i else i))
  | .sorted, [a] => sortD st a
  | .int, [.int i] => some (.int i)
  | .int, [.bl k] => some (.int (if k then 1 else 0))
  | .int, [.str z] => if z.length ≤ 640 then (intText? z).map .int else none
  | .repr, [a] => (reprD st a).map .str
  | .str, [a] => match a with
    | .int i => if i.natAbs.log2 < 1920 then some (.str (toString i)) else none
    | .str z => some (.str z)
    | .lst ds => (reprD st (.lst ds)).map .str
    | .cel k => (reprD st (.cel k)).map .str
    | _ => none
  | .list, [a] => match a with
    | .tup xs => some (.lst xs)
    | _ => (items st a).map .lst
  | .tuple, [a] => match a with
    | .tup xs => some (.tup xs)
    | _ => (items st a).map .tup
  | .isi t, [a] => (isiD st t a).map .bl
  | .isis ts, [a] => (tysIs st ts a).map .bl
  | .ord, [.str x] => if x.length = 1 then some (.int (x.cps.getD 0 0 : Nat)) else none
  | .lrng, [.int i] => if decide (-(2 ^ 62) ≤ i) && decide (i ≤ line) then some (.lst ((List.range i.toNat).map fun (k : Nat) => .int (k : Int))) else none
  | _, _ => none
def idxD (x : PyData) : List PyData → Nat → Option Nat
  | [], _ => none
  | y :: r, n => if PyData.eqv y x then some n else idxD x r (n + 1)
def metD (st : Store) (m : Mt) (a : D) (as : List D) : Option (D × Store) := match m, as with
  | .append, [x] => match a with
    | .cel k => match st[k]? with
      | some (.lst ds) => if ds.length < line then some (.non, st.set k (.lst (ds ++ [x]))) else none
      | _ => none
    | _ => none
  | .pop, [] => match a with
    | .cel k => match st[k]? with
      | some (.lst ds) => (ds[ds.length - 1]?).map fun y => (y, st.set k (.lst ds.dropLast))
      | _ => none
    | _ => none
  | .popAt, [.int i] => match a with
    | .cel k => match st[k]? with
      | some (.lst ds) => if ds.length ≤ line then (match L2.ixN ds.length i with
        | some j => (ds[j]?).map fun y => (y, st.set k (.lst (ds.eraseIdx j)))
        | none => none) else none
      | _ => none
    | _ => none
  | .split, [.str b] => match a with
    | .str z => if decide (0 < b.length) && decide (z.length + 2 ≤ line) then some (.lst ((Txt.split z b).map .str), st) else none
    | _ => none
  | .join, [x] => match a with
    | .str z => match (items st x).bind strsD with
      | some ys => if (ys.map (·.length)).sum + ys.length * z.length ≤ line then some (.str (Txt.join z ys), st) else none
      | none => none
    | _ => none
  | .bits, [] => match a with
    | .int i => some (.int (Builtin.Int.intBits i : Nat), st)
    | _ => none
  | .count, [.int k] => match (items st a).bind intsD with
    | some ns => some (.int (ns.count k : Nat), st)
    | none => none
  | .index, [x] => match snap st a, snap st x with
    | some (.lst ds), some y => if SeqAt.shaped (.list (toPs ds)) && SeqAt.shaped (toP y) then (idxD (toP y) (toPs ds) 0).map fun (n : Nat) => (.int (n : Int), st) else none
    | _, _ => none
  | _, _ => none

/-- whose method it is -/
def metTy (st : Store) (m : Mt) (x : D) : Bool := match m with
  | .join => (match x with
    | .str _ => true
    | _ => false)
  | .split => (match x with
    | .str _ => true
    | _ => false)
  | .bits => (match x with
    | .int _ => true
    | _ => false)
  | _ => (items st x).isSome
/-! ### the evaluator -/
structure Cxt where
  cal : Nat → List D → Store → R D
  con : Nat → Option D
  whl : Nat
  nf : Nat
/-- what comes of a call that sees no cell and gives none, no lambda either -/
def bareR (r : R D) (st : Store) : R D := match r with
  | .ok d _ => if bareD d then .ok d st else .bad
  | .exc k d _ => if bareD d then .exc k d st else .bad
  | .bad => .bad
def gets (ρ : Sl) : List Nat → Option (List D)
  | [] => some []
  | i :: is => match ρ[i]? with
    | some (some d) => (gets ρ is).map (d :: ·)
    | _ => none
def mkls (ρ : Sl) : List (Nat × List Nat) → Option (List D)
  | [] => some []
  | (j, is) :: r => match gets ρ is with
    | some ds => if bareDs ds then (mkls ρ r).map (.clo j ds :: ·) else none
    | none => none
def pick (ix : List Nat) (ds : List α) : Option (List α) := match ix with
  | [] => some []
  | i :: r => (ds[i]?).bind fun d => (pick r ds).map fun rs => d :: rs
def wipe (ρ : Sl) : List Nat → Sl
  | [] => ρ
  | v :: vs => (wipe ρ vs).set v none
/-- names stored: one, or several from a tuple -/
def asg1 (tg : List Nat) (ds : List D) (ρ : Sl) : Option Sl := match tg, ds with
  | [], [] => some ρ
  | i :: is, d :: ds => if i < ρ.length then asg1 is ds (ρ.set i (some d)) else none
  | _, _ => none
def asgT (tg : List Nat) (tp : Bool) (d : D) (ρ : Sl) : Option Sl := if tp then (match d with
    | .tup ds => asg1 tg ds ρ
    | _ => none) else asg1 tg [d] ρ
/-- what is walked: its items; for a cell, the cell -/
structure Walk where
  its : List D
  cell : Option Nat := none
/-- a cell that is walked stands as it was -/
def still (w : Walk) (st : Store) : Bool := match w.cell with
  | none => true
  | some k => match st[k]? with
    | some (.lst ds) => sameL ds w.its
    | _ => false
def lcGo (w : Walk) (f : D → Store → R (Option D)) : List D → List D → Store → R (List D)
  | [], acc, st => if still w st then .ok acc st else .bad
  | d :: ds, acc, st => if still w st then (f d st).bind fun o st => match o with
    | some y => if acc.length < line then lcGo w f ds (acc ++ [y]) st else .bad
    | none => lcGo w f ds acc st else .bad
def noExc {α : Type} (r : R α) : R α := match r with
  | .ok a st => .ok a st
  | _ => .bad
def tb (d : D) : Option Bool := match d with
  | .bl b => some b
  | _ => none
def pairs (n : Nat) : List D → List D
  | [] => []
  | d :: ds => .tup [.int n, d] :: pairs (n + 1) ds
mutual
def ev (c : Cxt) : Ex → Sl → Store → R D
  | .nm i, ρ, st => match ρ[i]? with
    | some (some d) => .ok d st
    | _ => .bad
  | .kn d, _, st => .ok d st
  | .con g, _, st => ofO (c.con g) st
  | .bin op a b, ρ, st => (ev c a ρ st).bind fun x st => (ev c b ρ st).bind fun y st => ofO (binD st op x y) st
  | .neg a, ρ, st => (ev c a ρ st).bind fun x st => match x with
    | .int i => .ok (.int (-i)) st
    | _ => .bad
  | .cmp op a b, ρ, st => (ev c a ρ st).bind fun x st => (ev c b ρ st).bind fun y st => ofO ((cmpD st op x y).map .bl) st
  | .chn o p a b d, ρ, st => (ev c a ρ st).bind fun x st => (ev c b ρ st).bind fun y st => match cmpD st o x y with
    | some true => (ev c d ρ st).bind fun z st => ofO ((cmpD st p y z).map .bl) st
    | some false => .ok (.bl false) st
    | none => .bad
  | .and a b, ρ, st => (ev c a ρ st).bind fun x st => match x with
    | .bl true => ev c b ρ st
    | .bl false => .ok (.bl false) st
    | _ => .bad
  | .or a b, ρ, st => (ev c a ρ st).bind fun x st => match x with
    | .bl true => .ok (.bl true) st
    | .bl false => ev c b ρ st
    | _ => .bad
  | .not a, ρ, st => (ev c a ρ st).bind fun x st => match x with
    | .bl k => .ok (.bl (!k)) st
    | _ => .bad
  | .ife t a b, ρ, st => (ev c t ρ st).bind fun x st => match x with
    | .bl true => ev c a ρ st
    | .bl false => ev c b ρ st
    | _ => .bad
  | .lst es, ρ, st => (evs c es ρ st).bind fun ds st => if ds.length ≤ line then .ok (.lst ds) st else .bad
  | .tup es, ρ, st => (evs c es ρ st).bind fun ds st => if ds.length ≤ line then .ok (.tup ds) st else .bad
  | .dic0, _, st => .ok (.dic []) st
  | .sub a b, ρ, st => (ev c a ρ st).bind fun x st => (ev c b ρ st).bind fun y st => ofO (subD st x y) st
  | .slc a lo hi, ρ, st => (ev c a ρ st).bind fun x st => (evo c lo ρ st).bind fun l st => (evo c hi ρ st).bind fun h st => ofO (slcD st x l h) st
  | .rev a, ρ, st => (ev c a ρ st).bind fun x st => ofO ((items st x).map fun xs => .lst xs.reverse) st
  | .rvb a n, ρ, st => (ev c a ρ st).bind fun x st => ofO ((items st x).map fun xs => .lst (xs.drop (n + 1)).reverse) st
  | .lc x tg tp s i own, ρ, st => (evw c s ρ st).bind fun w st => (noExc (lcGo w (fun d st => match asgT tg tp d (wipe ρ own) with
      | none => .bad
      | some ρ1 => (evt c i ρ1 st).bind fun b st => if b then (ev c x ρ1 st).bind fun y st => .ok (some y) st else .ok none st) w.its [] st)).bind fun ys st => .ok (.lst ys) st
  | .cal f es, ρ, st => (evs c es ρ st).bind fun ds st => c.cal f ds st
  | .fn f, _, st => .ok (.fn f) st
  | .cav i es, ρ, st => match ρ[i]? with
    | some (some (.fn f)) => if f < c.nf then (evs c es ρ st).bind fun ds st => c.cal f ds st else .bad
    | _ => .bad
  | .cac i es, ρ, st => match ρ[i]? with
    | some (some (.clo j ds)) => (evs c es ρ st).bind fun xs st => if bareDs ds && bareDs xs then bareR (c.cal (c.nf + j) (ds ++ xs) []) st else .bad
    | _ => .bad
  | .cll f j is es, ρ, st => match gets ρ is with
    | some ds => if bareDs ds then (evs c es ρ st).bind fun xs st => if freeDs xs then bareR (c.cal f (.clo j ds :: xs) []) st else .bad else .bad
    | none => .bad
  | .cak f es ks ix, ρ, st => (evs c es ρ st).bind fun ds st => (evs c ks ρ st).bind fun es st => match pick ix (ds ++ es) with
    | some rs => c.cal f rs st
    | none => .bad
  | .val e, ρ, st => (ev c e ρ st).bind fun x st => match x with
    | .exv _ d => .ok d st
    | _ => .bad
  | .pur f es, ρ, st => (evs c es ρ st).bind fun ds st => if freeDs ds then (match c.cal f ds [] with
      | .ok d _ => if freeD d then .ok d st else .bad
      | .exc k d _ => if freeD d then .exc k d st else .bad
      | .bad => .bad) else .bad
  | .blt b es, ρ, st => (evs c es ρ st).bind fun ds st => ofO (bltD st b ds) st
  | .met m a es, ρ, st => (ev c a ρ st).bind fun x st => if metTy st m x then (evs c es ρ st).bind fun ds st => match metD st m x ds with
    | some (d, st) => .ok d st
    | none => .bad else .bad
  | .mk e, ρ, st => (ev c e ρ st).bind fun x st => match x with
    | .lst ds => .ok (.cel st.length) (st ++ [.lst ds])
    | .dic [] => .ok (.cel st.length) (st ++ [.dic []])
    | _ => .bad
  | .frz e, ρ, st => (ev c e ρ st).bind fun x st => match x with
    | .cel k => match st[k]? with
      | some (.lst ds) => .ok (.lst ds) (st.set k .gone)
      | _ => .bad
    | _ => .bad
def evs (c : Cxt) : Exs → Sl → Store → R (List D)
  | .nil, _, st => .ok [] st
  | .cons e es, ρ, st => (ev c e ρ st).bind fun x st => (evs c es ρ st).bind fun xs st => .ok (x :: xs) st
/-- a part of a slice -/
def evo (c : Cxt) : Ox → Sl → Store → R (Option Int)
  | .non, _, st => .ok none st
  | .som e, ρ, st => (ev c e ρ st).bind fun x st => match x with
    | .int i => .ok (some i) st
    | _ => .bad
/-- a test, if there is one -/
def evt (c : Cxt) : Ox → Sl → Store → R Bool
  | .non, _, st => .ok true st
  | .som e, ρ, st => (ev c e ρ st).bind fun x st => ofO (tb x) st
def evw (c : Cxt) : Sr → Sl → Store → R Walk
  | .lis e, ρ, st => (ev c e ρ st).bind fun x st => match x with
    | .lst ds => .ok { its := ds } st
    | .scr ns => .ok { its := ns.map .int } st
    | .cel k => match st[k]? with
      | some (.lst ds) => .ok { its := ds, cell := some k } st
      | _ => .bad
    | _ => .bad
  | .tpl e, ρ, st => (ev c e ρ st).bind fun x st => match x with
    | .tup ds => .ok { its := ds } st
    | _ => .bad
  | .txt e, ρ, st => (ev c e ρ st).bind fun x st => match x with
    | .str z => .ok { its := z.cps.toList.map fun k => .str ⟨#[k]⟩ } st
    | _ => .bad
  | .rg1 e, ρ, st => (ev c e ρ st).bind fun x st => match x with
    | .int n => if decide (-(2 ^ 62) ≤ n) && decide (n < 2 ^ 62) then .ok { its := (List.range n.toNat).map fun (k : Nat) => .int (k : Int) } st else .bad
    | _ => .bad
  | .rg2 a b, ρ, st => (ev c a ρ st).bind fun x st => (ev c b ρ st).bind fun y st => match x, y with
    | .int l, .int h => if decide (-(2 ^ 62) ≤ l) && decide (l < 2 ^ 62) && decide (-(2 ^ 62) ≤ h) && decide (h < 2 ^ 62) then .ok { its := (List.range (h - l).toNat).map fun (k : Nat) => .int (l + (k : Int)) } st else .bad
    | _, _ => .bad
  | .enu e, ρ, st => (ev c e ρ st).bind fun x st => match x with
    | .lst ds => .ok { its := pairs 0 ds } st
    | _ => .bad
  | .zip s a b, ρ, st => (ev c a ρ st).bind fun x st => (ev c b ρ st).bind fun y st => match x, y with
    | .lst xs, .lst ys => if xs.length = ys.length then .ok { its := (xs.zip ys).map fun p => .tup [p.1, p.2] } st else .bad
    | .tup xs, .tup ys => if s = true then .bad else if xs.length = ys.length then .ok { its := (xs.zip ys).map fun p => .tup [p.1, p.2] } st else .bad
    | _, _ => .bad
end

/-! ### statements -/
inductive E where
  | nx (ρ : Sl) (st : Store) | rt (d : D) (st : Store) | bk (ρ : Sl) (st : Store) | ct (ρ : Sl) (st : Store)
  | exc (c : Nat) (d : D) (ρ : Sl) (st : Store) | bad
def R.thn {α : Type} (r : R α) (ρ : Sl) (f : α → Store → E) : E := match r with
  | .ok a st => f a st
  | .exc c d st => .exc c d ρ st
  | .bad => .bad
@[simp] theorem R.thn_ok {α : Type} {a : α} {st : Store} {ρ : Sl} {f : α → Store → E} : (R.ok a st).thn ρ f = f a st := (rfl)
@[simp] theorem R.thn_exc {α : Type} {c : Nat} {d : D} {st : Store} {ρ : Sl} {f : α → Store → E} : (R.exc c d st : R α).thn ρ f = .exc c d ρ st := (rfl)
@[simp] theorem R.thn_bad {α : Type} {ρ : Sl} {f : α → Store → E} : (R.bad : R α).thn ρ f = .bad := (rfl)
def ofS (o : Option Sl) (st : Store) : E := match o with
  | some ρ => .nx ρ st
  | none => .bad
@[simp] theorem ofS_some {ρ : Sl} {st : Store} : ofS (some ρ) st = .nx ρ st := (rfl)
@[simp] theorem ofS_none {st : Store} : ofS none st = .bad := (rfl)
def set1 (i : Nat) (d : D) (ρ : Sl) : Option Sl := if i < ρ.length then some (ρ.set i (some d)) else none
/-- a[i] = d -/
def stiD (st : Store) (a i d : D) : Option Store := match a, i with
  | .cel k, .int j => match st[k]? with
    | some (.lst ds) => (L2.ixN ds.length j).map fun n => st.set k (.lst (ds.set n d))
    | _ => none
  | .cel k, .str x => match st[k]? with
    | some (.dic kvs) => if kvs.length < line then some (st.set k (.dic (dPut kvs (.inr x) d))) else none
    | _ => none
  | _, _ => none
/-- a[i] of a cell, i from the left -/
def getD (st : Store) (a i : D) : Option D := match a, i with
  | .cel k, .int j => if 0 ≤ j then (match st[k]? with
    | some (.lst ds) => if ds.length ≤ line then ds[j.toNat]? else none
    | _ => none) else none
  | _, _ => none
def forGo (w : Walk) (f : D → Sl → Store → E) : List D → Sl → Store → E
  | [], ρ, st => if still w st then .nx ρ st else .bad
  | d :: ds, ρ, st => if still w st then (match f d ρ st with
    | .nx ρ st => forGo w f ds ρ st
    | .ct ρ st => forGo w f ds ρ st
    | .bk ρ st => .nx ρ st
    | r => r) else .bad
def whlGo (t : Sl → Store → R Bool) (f : Sl → Store → E) : Nat → Sl → Store → E
  | 0, _, _ => .bad
  | n + 1, ρ, st => (t ρ st).thn ρ fun b st => if b then (match f ρ st with
    | .nx ρ st => whlGo t f n ρ st
    | .ct ρ st => whlGo t f n ρ st
    | .bk ρ st => .nx ρ st
    | r => r) else .nx ρ st
def hval (r : Bool) (d : D) (st : Store) : Option D := if r then (reprD st d).map .str else some d
def hnd (h : Hn) (i k : Nat) (d : D) (ρ : Sl) (st : Store) : E := match h with
  | .keep j => if decide (i < ρ.length) && decide (j < ρ.length) && decide (i ≠ j) then .nx ((ρ.set j (some (.exv k d))).set i none) st else .bad
  | .put j r => match hval r d st with
    | some x => if decide (i < ρ.length) && decide (j < ρ.length) && decide (i ≠ j) then .nx ((ρ.set j (some x)).set i none) st else .bad
    | none => .bad
  | .add j r => match hval r d st, ρ[j]? with
    | some x, some (some a) => (match metD st .append a [x] with
      | some (_, st) => if decide (i < ρ.length) && decide (i ≠ j) then .nx (ρ.set i none) st else .bad
      | none => .bad)
    | _, _ => .bad
mutual
def ex (c : Cxt) : Sm → Sl → Store → E
  | .set i e, ρ, st => (ev c e ρ st).thn ρ fun d st => ofS (set1 i d ρ) st
  | .par is es, ρ, st => (evs c es ρ st).thn ρ fun ds st => ofS (asg1 is ds ρ) st
  | .unp is e, ρ, st => (ev c e ρ st).thn ρ fun d st => ofS (asgT is true d ρ) st
  | .sti a i e, ρ, st => (ev c e ρ st).thn ρ fun d st => (ev c a ρ st).thn ρ fun x st => (ev c i ρ st).thn ρ fun y st => match stiD st x y d with
    | some st => .nx ρ st
    | none => .bad
  | .aug i op e, ρ, st => match ρ[i]? with
    | some (some (.int a)) => (ev c e ρ st).thn ρ fun y st => match y with
      | .int b => (match binI op a b with
        | some z => ofS (set1 i z ρ) st
        | none => .bad)
      | _ => .bad
    | _ => .bad
  | .agi a i op e, ρ, st => (ev c a ρ st).thn ρ fun x st => (ev c i ρ st).thn ρ fun y st => match getD st x y with
    | some (.int p) => (ev c e ρ st).thn ρ fun q st => (match q with
      | .int q => (match binI op p q with
        | some z => (match stiD st x y z with
          | some st => .nx ρ st
          | none => .bad)
        | none => .bad)
      | _ => .bad)
    | _ => .bad
  | .exp e, ρ, st => (ev c e ρ st).thn ρ fun _ st => .nx ρ st
  | .ret e, ρ, st => (ev c e ρ st).thn ρ fun d st => .rt d st
  | .ife t a b, ρ, st => (ev c t ρ st).thn ρ fun x st => match x with
    | .bl true => exs c a ρ st
    | .bl false => exs c b ρ st
    | _ => .bad
  | .for_ tg tp s b, ρ, st => (evw c s ρ st).thn ρ fun w st => forGo w (fun d ρ st => match asgT tg tp d ρ with
    | some ρ => exs c b ρ st
    | none => .bad) w.its ρ st
  | .whl t b, ρ, st => whlGo (fun ρ st => (ev c t ρ st).bind fun x st => ofO (tb x) st) (exs c b) c.whl ρ st
  | .brk, ρ, st => .bk ρ st
  | .cnt, ρ, st => .ct ρ st
  | .pas, ρ, st => .nx ρ st
  | .rai k e, ρ, st => (ev c e ρ st).thn ρ fun d st => .exc k d ρ st
  | .tri b cs no i h, ρ, st => match exs c b ρ st with
    | .exc k d ρ st => if cs.contains k then hnd h i k d ρ st else if no.contains k then .exc k d ρ st else .bad
    | r => r
  | .mkl js, ρ, st => match mkls ρ js with
    | some ds => .rt (.lst ds) st
    | none => .bad
def exs (c : Cxt) : Sms → Sl → Store → E
  | .nil, ρ, st => .nx ρ st
  | .cons s ss, ρ, st => match ex c s ρ st with
    | .nx ρ st => exs c ss ρ st
    | r => r
end
/-! ### defs -/
structure Fn where
  ar : Nat
  sl : Nat
  body : Sms
def run1 (c : Cxt) (f : Fn) (ds : List D) (st : Store) : R D := if ds.length = f.ar then (match exs c f.body (ds.map some ++ List.replicate (f.sl - ds.length) none) st with
    | .nx _ st => .ok .non st
    | .rt d st => .ok d st
    | .exc k d _ st => .exc k d st
    | _ => .bad) else .bad
def run (P : Nat → Option Fn) (con : Nat → Option D) (w nf : Nat) : Nat → Nat → List D → Store → R D
  | 0, _, _, _ => .bad
  | n + 1, f, ds, st => match P f with
    | some fn => run1 ⟨run P con w nf n, con, w, nf⟩ fn ds st
    | none => .bad
end MP
end
section
set_option maxRecDepth 100000
set_option maxHeartbeats 4000000
/-! MPRel: how the evaluator's values stand in the hand layer's heap. -/
namespace MP
open PySem L2
/-- where the module's functions and classes stand -/
class Glo where
  fn : Nat → Addr
  cl : Nat → Addr
  nx : Nat
  /-- which written lambda is the j-th -/
  lk : Nat → Arguments → Expr → Scope → Bool
  /-- the names that it holds -/
  ln : Nat → List Str
  /-- the tables of the code objects -/
  tabs : List (Addr × Str)
variable [Glo]
/-- an exception's object: its class, its dict -/
def ExAt (c dx a : Addr) : HO := .ext fun h => ∃ (o : Obj) (vs : Array Value), h.get? a = some o ∧ o.cls = .ref c ∧ o.dict = some dx ∧ o.data = .fields vs

/-- where the cells stand; what else is not to be leant on; the store -/
structure Fr where
  al : Nat → Addr
  ex : Addr → Prop
  st : Store
def Live (st : Store) (k : Nat) : Prop := ∃ o, st[k]? = some o ∧ o ≠ .gone
/-- what may change -/
def Fr.un (F : Fr) (a : Addr) : Prop := F.ex a ∨ ∃ k, Live F.st k ∧ F.al k = a

mutual
def Rep (F : Fr) (H : Hp) : D → V → Prop
  | .non, v => v = .non
  | .bl b, v => v = .bl b
  | .int i, v => v = .int i
  | .str s, v => v = .str s
  | .lst ds, v => ∃ a vs, v = .ref a ∧ ¬ F.un a ∧ H a = some (.lst vs) ∧ Reps F H ds vs
  | .tup ds, v => ∃ a vs, v = .ref a ∧ ¬ F.un a ∧ H a = some (.tup vs) ∧ Reps F H ds vs
  | .dic kvs, v => ∃ a us, v = .ref a ∧ ¬ F.un a ∧ H a = some (.dK us) ∧ RepK F H kvs us
  | .scr ns, v => ∃ a o, v = .ref a ∧ ¬ F.un a ∧ H a = some (.frz o (.lst (ns.map V.int)))
  | .cel k, v => v = .ref (F.al k) ∧ k < F.st.length
  | .exv k d, v => k < Glo.nx ∧ ∃ a dx u, v = .ref a ∧ ¬ F.un a ∧ H a = some (ExAt (Glo.cl k) dx a) ∧ ¬ F.un dx ∧ H dx = some (.xd [(("value" : Str), u)]) ∧ Rep F H d u
  | .fn f, v => v = .ref (Glo.fn f)
  | .clo j ds, v => ∃ (f c' : Addr) (q : Str) (ps : Arguments) (b : Expr) (sc : Scope) (cl : List (Str × Addr)) (pm ctv : Value), v = .ref f ∧ Glo.lk j ps b sc = true ∧ ¬ F.un f ∧ H f = some (.frz (PySem.W.kla_obj "<lambda>" q ps b sc cl pm c' ctv) (.own f)) ∧ ¬ F.un c' ∧ H c' = some (LamX.CodeO c' q) ∧
      (∀ x y c, cl.lookup x = some c → cl.lookup y = some c → x = y) ∧ (∀ x c, cl.lookup x = some c → x ∈ Glo.ln j) ∧ RepC F H cl ds (Glo.ln j)
def Reps (F : Fr) (H : Hp) : List D → List V → Prop
  | [], vs => vs = []
  | d :: ds, vs => ∃ v r, vs = v :: r ∧ Rep F H d v ∧ Reps F H ds r
def RepK (F : Fr) (H : Hp) : List (Key × D) → List (Key × V) → Prop
  | [], us => us = []
  | p :: ps, us => ∃ v r, us = (p.1, v) :: r ∧ Rep F H p.2 v ∧ RepK F H ps r
/-- the cells that a lambda holds -/
def RepC (F : Fr) (H : Hp) (cl : List (Str × Addr)) : List D → List Str → Prop
  | [], ns => ns = []
  | d :: ds, ns => ∃ y r c co u v, ns = y :: r ∧ cl.lookup y = some c ∧ ¬ F.un c ∧ H c = some (.frz co (.own c)) ∧ co.data = .cell (some u) ∧ RelV v u ∧ Rep F H d v ∧ RepC F H cl ds r
end

def CellOk (F : Fr) (H : Hp) (a : Addr) : Cell → Prop
  | .lst ds => ∃ vs, H a = some (.lst vs) ∧ Reps F H ds vs
  | .dic kvs => ∃ us, H a = some (.dK us) ∧ RepK F H kvs us
  | .gone => True
/-- the store stands in the heap -/
structure Sto (F : Fr) (H : Hp) : Prop where
  ce : ∀ k o, F.st[k]? = some o → CellOk F H (F.al k) o
  inj : ∀ j k, Live F.st j → Live F.st k → F.al j = F.al k → j = k
  nex : ∀ k, Live F.st k → ¬ F.ex (F.al k)
  ext : ∀ a, F.ex a → H a ≠ none
  tab : LamX.Tabs Glo.tabs H
  exl : ∀ a, F.ex a → (∀ φ, H a ≠ some (.ext φ)) ∧ ∀ ps, H a ≠ some (.tbl ps)
/-- the slots -/
def Slo (F : Fr) (H : Hp) (ρ : Sl) (σ : St) : Prop := ρ.length = σ.length ∧ ∀ (i : Nat) (d : D), ρ[i]? = some (some d) → ∃ v, σ[i]? = some (some v) ∧ Rep F H d v

/-- from one moment to a later one -/
structure Ext (F : Fr) (H : Hp) (F' : Fr) (H' : Hp) : Prop where
  al : ∀ k, k < F.st.length → F'.al k = F.al k
  ex : ∀ a, H a ≠ none → (F'.ex a ↔ F.ex a)
  len : F.st.length ≤ F'.st.length
  lv : ∀ k, k < F.st.length → Live F'.st k → Live F.st k
  new : ∀ k, F.st.length ≤ k → Live F'.st k → H (F'.al k) = none
  there : ∀ a, H' a = none → H a = none
  keep : ∀ a o, H a = some o → (∀ ps, o ≠ .tbl ps) → (∀ k, Live F.st k → F.al k ≠ a) → H' a = some o

theorem Live.lt {st : Store} {k : Nat} (h : Live st k) : k < st.length := by
  obtain ⟨o, e, _⟩ := h
  exact (List.getElem?_eq_some_iff.mp e).1

section
variable {F F' F'' : Fr} {H H' H'' : Hp}
theorem Ext.refl (F : Fr) (H : Hp) : Ext F H F H :=
  ⟨fun _ _ => rfl, fun _ _ => Iff.rfl, Nat.le_refl _, fun _ _ h => h, fun k hk h => absurd h.lt (Nat.not_lt.mpr hk), fun _ e => e, fun _ _ e _ _ => e⟩
theorem Ext.trans (a : Ext F H F' H') (b : Ext F' H' F'' H'') : Ext F H F'' H'' := by
  refine ⟨fun k hk => (b.al k (Nat.lt_of_lt_of_le hk a.len)).trans (a.al k hk), fun x hx => (b.ex x (fun z => hx (a.there x z))).trans (a.ex x hx), Nat.le_trans a.len b.len, fun k hk h => a.lv k hk (b.lv k (Nat.lt_of_lt_of_le hk a.len) h), fun k hk h => ?_, fun x e => a.there x (b.there x e), fun x o e ht hn => ?_⟩
  · by_cases hk' : k < F'.st.length
    · rw [b.al k hk']
      exact a.new k hk (b.lv k hk' h)
    · exact a.there _ (b.new k (Nat.le_of_not_lt hk') h)
  · refine b.keep x o (a.keep x o e ht hn) ht fun k hk ek => ?_
    by_cases hk' : k < F.st.length
    · exact hn k (a.lv k hk' hk) ((a.al k hk').symm.trans ek)
    · have z := a.new k (Nat.le_of_not_lt hk') hk
      rw [ek, e] at z
      cases z
/-- what could not change before cannot now -/
theorem Ext.un (x : Ext F H F' H') {a : Addr} {o : HO} (e : H a = some o) (h : ¬ F.un a) : ¬ F'.un a := by
  rintro (h1 | ⟨k, hk, ek⟩)
  · exact h (.inl ((x.ex a (by rw [e]; exact fun z => nomatch z)).mp h1))
  · by_cases hk' : k < F.st.length
    · exact h (.inr ⟨k, x.lv k hk' hk, (x.al k hk').symm.trans ek⟩)
    · have z := x.new k (Nat.le_of_not_lt hk') hk
      rw [ek, e] at z
      cases z
theorem Ext.stay (x : Ext F H F' H') {a : Addr} {o : HO} (e : H a = some o) (h : ¬ F.un a) (ht : ∀ ps, o ≠ .tbl ps := by intro _ z; cases z) : H' a = some o := x.keep a o e ht fun k hk ek => h (.inr ⟨k, hk, ek⟩)
theorem noTab_ex {c dx a : Addr} (ps : Array Value) : ExAt c dx a ≠ .tbl ps := fun z => by
  unfold ExAt at z
  cases z
mutual
theorem Rep.ext (x : Ext F H F' H') : ∀ (d : D) (v : V), Rep F H d v → Rep F' H' d v
  | .non, _, h => h
  | .bl _, _, h => h
  | .int _, _, h => h
  | .str _, _, h => h
  | .lst ds, v, ⟨a, vs, e, hu, ha, hs⟩ => ⟨a, vs, e, x.un ha hu, x.stay ha hu, Reps.ext x ds vs hs⟩
  | .tup ds, v, ⟨a, vs, e, hu, ha, hs⟩ => ⟨a, vs, e, x.un ha hu, x.stay ha hu, Reps.ext x ds vs hs⟩
  | .dic ds, v, ⟨a, vs, e, hu, ha, hs⟩ => ⟨a, vs, e, x.un ha hu, x.stay ha hu, RepK.ext x ds vs hs⟩
  | .scr ns, v, ⟨a, o, e, hu, ha⟩ => ⟨a, o, e, x.un ha hu, x.stay ha hu⟩
  | .cel k, v, ⟨e, hk⟩ => ⟨by rw [x.al k hk]; exact e, Nat.lt_of_lt_of_le hk x.len⟩
  | .exv k d, v, ⟨hk, a, dx, u, e, hu, ha, hx, hd, hr⟩ => ⟨hk, a, dx, u, e, x.un ha hu, x.stay ha hu noTab_ex, x.un hd hx, x.stay hd hx, Rep.ext x d u hr⟩
  | .fn _, _, h => h
  | .clo j ds, v, ⟨f, c', q, ps, b, sc, cl, pm, ctv, e, hl, hu, hf, hu2, hc, hn, hm, hr⟩ => ⟨f, c', q, ps, b, sc, cl, pm, ctv, e, hl, x.un hf hu, x.stay hf hu, x.un hc hu2, x.stay hc hu2 LamX.codeO_ne, hn, hm, RepC.ext x cl ds _ hr⟩
theorem Reps.ext (x : Ext F H F' H') : ∀ (ds : List D) (vs : List V), Reps F H ds vs → Reps F' H' ds vs
  | [], _, h => h
  | d :: ds, _, ⟨v, r, e, h1, h2⟩ => ⟨v, r, e, Rep.ext x d v h1, Reps.ext x ds r h2⟩
theorem RepK.ext (x : Ext F H F' H') : ∀ (ds : List (Key × D)) (vs : List (Key × V)), RepK F H ds vs → RepK F' H' ds vs
  | [], _, h => h
  | (k, d) :: ds, _, ⟨v, r, e, h1, h2⟩ => ⟨v, r, e, Rep.ext x d v h1, RepK.ext x ds r h2⟩
theorem RepC.ext (x : Ext F H F' H') (cl : List (Str × Addr)) : ∀ (ds : List D) (ns : List Str), RepC F H cl ds ns → RepC F' H' cl ds ns
  | [], _, h => h
  | d :: ds, _, ⟨y, r, c, co, u, v, e, hl, hu, hc, hd, rv, h1, h2⟩ => ⟨y, r, c, co, u, v, e, hl, x.un hc hu, x.stay hc hu, hd, rv, Rep.ext x d v h1, RepC.ext x cl ds r h2⟩
end
theorem Slo.ext (x : Ext F H F' H') {ρ : Sl} {σ : St} (h : Slo F H ρ σ) : Slo F' H' ρ σ := ⟨h.1, fun i d e => by
  obtain ⟨v, e1, e2⟩ := h.2 i d e
  exact ⟨v, e1, e2.ext x⟩⟩
theorem Reps.length : ∀ {ds : List D} {vs : List V}, Reps F H ds vs → ds.length = vs.length
  | [], _, h => by
    have h : _ = [] := h
    rw [h]
    rfl
  | d :: ds, _, ⟨v, r, e, _, h2⟩ => by
    rw [e]
    exact congrArg Nat.succ h2.length
theorem Reps.get : ∀ {ds : List D} {vs : List V} {i : Nat} {d : D}, Reps F H ds vs → ds[i]? = some d → ∃ v, vs[i]? = some v ∧ Rep F H d v
  | [], _, _, _, _, e => by simp at e
  | d :: ds, _, 0, d', ⟨v, r, e, h1, _⟩, q => by
    simp at q
    subst q e
    exact ⟨v, rfl, h1⟩
  | d :: ds, _, i + 1, d', ⟨v, r, e, _, h2⟩, q => by
    subst e
    exact h2.get (i := i) (by simpa using q)
theorem Reps.append : ∀ {ds es : List D} {vs us : List V}, Reps F H ds vs → Reps F H es us → Reps F H (ds ++ es) (vs ++ us)
  | [], _, _, _, h, h' => by
    have h : _ = [] := h
    rw [h]
    exact h'
  | d :: ds, es, _, us, ⟨v, r, e, h1, h2⟩, h' => by
    subst e
    exact ⟨v, r ++ us, rfl, h1, h2.append h'⟩
theorem Reps.one {d : D} {v : V} (h : Rep F H d v) : Reps F H [d] [v] := ⟨v, [], rfl, h, rfl⟩
theorem Reps.set : ∀ {ds : List D} {vs : List V} {d : D} {v : V} (i : Nat), Reps F H ds vs → Rep F H d v → Reps F H (ds.set i d) (vs.set i v)
  | [], _, _, _, _, h, _ => by
    have h : _ = [] := h
    rw [h]
    rfl
  | _ :: ds, _, d, v, 0, ⟨w, r, e, _, h2⟩, q => by
    subst e
    exact ⟨v, r, rfl, q, h2⟩
  | _ :: ds, _, d, v, i + 1, ⟨w, r, e, h1, h2⟩, q => by
    subst e
    exact ⟨w, _, rfl, h1, h2.set i q⟩

theorem CellOk.some {a : Addr} {o : Cell} (h : CellOk F H a o) (ho : o ≠ .gone) : H a ≠ none := by
  cases o with
  | lst ds => obtain ⟨vs, e, _⟩ := h; rw [e]; exact fun z => nomatch z
  | dic ds => obtain ⟨vs, e, _⟩ := h; rw [e]; exact fun z => nomatch z
  | gone => exact absurd rfl ho
theorem Sto.there (s : Sto F H) {k : Nat} (h : Live F.st k) : H (F.al k) ≠ none := by
  obtain ⟨o, e, ho⟩ := h
  exact (s.ce k o e).some ho
/-- a place where nothing stands may be leant on -/
theorem Sto.nun (s : Sto F H) {p : Addr} (hp : H p = none) : ¬ F.un p := by
  rintro (h | ⟨k, hk, e⟩)
  · exact s.ext p h hp
  · exact s.there hk (by rw [e]; exact hp)
/-- what is no table and no code object changes -/
theorem tabs_upd {T : List (Addr × Str)} {H : Hp} {p : Addr} {o u : HO} (t : LamX.Tabs T H) (e : H p = some u) (h1 : ∀ ps, u ≠ .tbl ps := by intro _ z; cases z) (h2 : ∀ c q, u ≠ LamX.CodeO c q := by intro _ _ z; unfold LamX.CodeO at z; cases z) : LamX.Tabs T (upd H p o) := fun q hq => by
  obtain ⟨ps, t1, t2, t3⟩ := t q hq
  have k : ∀ {a : Addr} {w : HO}, H a = some w → w ≠ u → upd H p o a = some w := fun {a w} ha hw => by
    rw [upd_ne fun z => hw (by rw [z, e] at ha; exact (Option.some.inj ha).symm)]
    exact ha
  refine ⟨ps, k t1 (fun z => h1 ps z.symm), t2, fun pos cv hc => ?_⟩
  obtain ⟨c, e1, e2⟩ := t3 pos cv hc
  exact ⟨c, e1, k e2 (fun z => h2 _ _ z.symm)⟩
/-- a new object -/
theorem Ext.fresh (F : Fr) {H : Hp} {p : Addr} (o : HO) (hp : H p = none) : Ext F H F (upd H p o) :=
  ⟨fun _ _ => rfl, fun _ _ => Iff.rfl, Nat.le_refl _, fun _ _ h => h, fun k hk h => absurd h.lt (Nat.not_lt.mpr hk), fun a e => by
    by_cases q : a = p
    · rw [q]; exact hp
    · rw [upd_ne q] at e; exact e, fun a u e _ _ => by rw [upd_ne (ne_of_none e hp)]; exact e⟩
theorem Sto.fresh (s : Sto F H) {p : Addr} (o : HO) (hp : H p = none) : Sto F (upd H p o) := by
  have x := Ext.fresh F o hp
  refine ⟨fun k c e => ?_, s.inj, s.nex, fun a h z => ?_, s.tab.ext (fun b u e => by rw [upd_ne (ne_of_none e hp)]; exact e), fun a z => ?_⟩
  · by_cases hg : c = .gone
    · subst hg; trivial
    · have hl : Live F.st k := ⟨c, e, hg⟩
      have hn : F.al k ≠ p := fun z => s.there hl (by rw [z]; exact hp)
      have q := s.ce k c e
      have eq : upd H p o (F.al k) = H (F.al k) := upd_ne hn
      cases c with
      | lst ds =>
        obtain ⟨vs, q1, r⟩ := q
        exact ⟨vs, eq.trans q1, r.ext x⟩
      | dic ds =>
        obtain ⟨vs, q1, r⟩ := q
        exact ⟨vs, eq.trans q1, r.ext x⟩
      | gone => trivial
  · exact s.ext a h (x.there a z)
  · rw [upd_ne fun w => s.ext a z (by rw [w]; exact hp)]
    exact s.exl a z
/-! ### a place of one's own -/
mutual
theorem repO {H H' : Hp} (go : ∀ a, ¬ F.un a → ∀ u, H a = some u → H' a = some u) : ∀ (d : D) (v : V), Rep F H d v → Rep F H' d v
  | .non, _, h => h
  | .bl _, _, h => h
  | .int _, _, h => h
  | .str _, _, h => h
  | .lst ds, v, ⟨a, vs, e, hu, ha, hs⟩ => ⟨a, vs, e, hu, go a hu _ ha, repsO go ds vs hs⟩
  | .tup ds, v, ⟨a, vs, e, hu, ha, hs⟩ => ⟨a, vs, e, hu, go a hu _ ha, repsO go ds vs hs⟩
  | .dic ds, v, ⟨a, vs, e, hu, ha, hs⟩ => ⟨a, vs, e, hu, go a hu _ ha, repkO go ds vs hs⟩
  | .scr ns, v, ⟨a, o, e, hu, ha⟩ => ⟨a, o, e, hu, go a hu _ ha⟩
  | .cel k, v, h => h
  | .exv k d, v, ⟨hk, a, dx, u, e, hu, ha, hx, hd, hr⟩ => ⟨hk, a, dx, u, e, hu, go a hu _ ha, hx, go dx hx _ hd, repO go d u hr⟩
  | .fn _, _, h => h
  | .clo j ds, v, ⟨f, c', q, ps, b, sc, cl, pm, ctv, e, hl, hu, hf, hu2, hc, hn, hm, hr⟩ => ⟨f, c', q, ps, b, sc, cl, pm, ctv, e, hl, hu, go f hu _ hf, hu2, go c' hu2 _ hc, hn, hm, repcO go cl ds _ hr⟩
theorem repsO {H H' : Hp} (go : ∀ a, ¬ F.un a → ∀ u, H a = some u → H' a = some u) : ∀ (ds : List D) (vs : List V), Reps F H ds vs → Reps F H' ds vs
  | [], _, h => h
  | d :: ds, _, ⟨v, r, e, h1, h2⟩ => ⟨v, r, e, repO go d v h1, repsO go ds r h2⟩
theorem repkO {H H' : Hp} (go : ∀ a, ¬ F.un a → ∀ u, H a = some u → H' a = some u) : ∀ (ds : List (Key × D)) (vs : List (Key × V)), RepK F H ds vs → RepK F H' ds vs
  | [], _, h => h
  | (k, d) :: ds, _, ⟨v, r, e, h1, h2⟩ => ⟨v, r, e, repO go d v h1, repkO go ds r h2⟩
theorem repcO {H H' : Hp} (go : ∀ a, ¬ F.un a → ∀ u, H a = some u → H' a = some u) (cl : List (Str × Addr)) : ∀ (ds : List D) (ns : List Str), RepC F H cl ds ns → RepC F H' cl ds ns
  | [], _, h => h
  | d :: ds, _, ⟨y, r, c, co, u, v, e, hl, hu, hc, hd, rv, h1, h2⟩ => ⟨y, r, c, co, u, v, e, hl, hu, go c hu _ hc, hd, rv, repO go d v h1, repcO go cl ds r h2⟩
end
mutual
theorem repL {G : Fr} {H : Hp} (ea : ∀ k, k < F.st.length → G.al k = F.al k) (es : F.st.length ≤ G.st.length) (go : ∀ a, G.un a → F.un a) : ∀ (d : D) (v : V), Rep F H d v → Rep G H d v
  | .non, _, h => h
  | .bl _, _, h => h
  | .int _, _, h => h
  | .str _, _, h => h
  | .lst ds, v, ⟨a, vs, e, hu, ha, hs⟩ => ⟨a, vs, e, fun z => hu (go a z), ha, repsL ea es go ds vs hs⟩
  | .tup ds, v, ⟨a, vs, e, hu, ha, hs⟩ => ⟨a, vs, e, fun z => hu (go a z), ha, repsL ea es go ds vs hs⟩
  | .dic ds, v, ⟨a, vs, e, hu, ha, hs⟩ => ⟨a, vs, e, fun z => hu (go a z), ha, repkL ea es go ds vs hs⟩
  | .scr ns, v, ⟨a, o, e, hu, ha⟩ => ⟨a, o, e, fun z => hu (go a z), ha⟩
  | .cel k, v, h => by
    have h : v = .ref (F.al k) ∧ k < F.st.length := h
    show v = .ref (G.al k) ∧ k < G.st.length
    rw [ea k h.2]
    exact ⟨h.1, Nat.lt_of_lt_of_le h.2 es⟩
  | .exv k d, v, ⟨hk, a, dx, u, e, hu, ha, hx, hd, hr⟩ => ⟨hk, a, dx, u, e, fun z => hu (go a z), ha, fun z => hx (go dx z), hd, repL ea es go d u hr⟩
  | .fn _, _, h => h
  | .clo j ds, v, ⟨f, c', q, ps, b, sc, cl, pm, ctv, e, hl, hu, hf, hu2, hc, hn, hm, hr⟩ => ⟨f, c', q, ps, b, sc, cl, pm, ctv, e, hl, fun z => hu (go f z), hf, fun z => hu2 (go c' z), hc, hn, hm, repcL ea es go cl ds _ hr⟩
theorem repsL {G : Fr} {H : Hp} (ea : ∀ k, k < F.st.length → G.al k = F.al k) (es : F.st.length ≤ G.st.length) (go : ∀ a, G.un a → F.un a) : ∀ (ds : List D) (vs : List V), Reps F H ds vs → Reps G H ds vs
  | [], _, h => h
  | d :: ds, _, ⟨v, r, e, h1, h2⟩ => ⟨v, r, e, repL ea es go d v h1, repsL ea es go ds r h2⟩
theorem repkL {G : Fr} {H : Hp} (ea : ∀ k, k < F.st.length → G.al k = F.al k) (es : F.st.length ≤ G.st.length) (go : ∀ a, G.un a → F.un a) : ∀ (ds : List (Key × D)) (vs : List (Key × V)), RepK F H ds vs → RepK G H ds vs
  | [], _, h => h
  | (k, d) :: ds, _, ⟨v, r, e, h1, h2⟩ => ⟨v, r, e, repL ea es go d v h1, repkL ea es go ds r h2⟩
theorem repcL {G : Fr} {H : Hp} (ea : ∀ k, k < F.st.length → G.al k = F.al k) (es : F.st.length ≤ G.st.length) (go : ∀ a, G.un a → F.un a) (cl : List (Str × Addr)) : ∀ (ds : List D) (ns : List Str), RepC F H cl ds ns → RepC G H cl ds ns
  | [], _, h => h
  | d :: ds, _, ⟨y, r, c, co, u, v, e, hl, hu, hc, hd, rv, h1, h2⟩ => ⟨y, r, c, co, u, v, e, hl, fun z => hu (go c z), hc, hd, rv, repL ea es go d v h1, repcL ea es go cl ds r h2⟩
end
/-- what stands at a place that nothing leans on changes -/
theorem Rep.other {D' : Addr} {o : HO} (hD : F.un D') : (∀ (d : D) (v : V), Rep F H d v → Rep F (upd H D' o) d v) ∧ (∀ (ds : List D) (vs : List V), Reps F H ds vs → Reps F (upd H D' o) ds vs) ∧ (∀ (ds : List (Key × D)) (vs : List (Key × V)), RepK F H ds vs → RepK F (upd H D' o) ds vs) := by
  have go : ∀ a, ¬ F.un a → ∀ u, H a = some u → upd H D' o a = some u := fun a hu u e => by
    rw [upd_ne fun z => hu (by rw [z]; exact hD)]
    exact e
  exact ⟨fun d v h => repO go d v h, fun d v h => repsO go d v h, fun d v h => repkO go d v h⟩
theorem Sto.other {D' : Addr} {o u : HO} (s : Sto F H) (hD : F.ex D') (e : H D' = some u) (h1 : ∀ ps, u ≠ .tbl ps := by intro _ z; cases z) (h2 : ∀ c q, u ≠ LamX.CodeO c q := by intro _ _ z; unfold LamX.CodeO at z; cases z) (h3 : ∀ φ, o ≠ .ext φ := by intro _ z; cases z) (h4 : ∀ ps, o ≠ .tbl ps := by intro _ z; cases z) : Sto F (upd H D' o) := by
  obtain ⟨r1, r2, r3⟩ := Rep.other (F := F) (H := H) (D' := D') (o := o) (.inl hD)
  refine ⟨fun k c e => ?_, s.inj, s.nex, fun a h z => ?_, tabs_upd s.tab e h1 h2, fun a z => ?_⟩
  · by_cases hg : c = .gone
    · subst hg; trivial
    · have hl : Live F.st k := ⟨c, e, hg⟩
      have hn : F.al k ≠ D' := fun z => s.nex k hl (by rw [z]; exact hD)
      have q := s.ce k c e
      have eq : upd H D' o (F.al k) = H (F.al k) := upd_ne hn
      cases c with
      | lst ds =>
        obtain ⟨vs, q1, r⟩ := q
        exact ⟨vs, eq.trans q1, r2 _ _ r⟩
      | dic ds =>
        obtain ⟨vs, q1, r⟩ := q
        exact ⟨vs, eq.trans q1, r3 _ _ r⟩
      | gone => trivial
  · by_cases q : a = D'
    · subst q; rw [upd_same] at z; cases z
    · rw [upd_ne q] at z; exact s.ext a h z
  · by_cases w : a = D'
    · rw [w, upd_same]
      exact ⟨fun φ q => h3 φ (Option.some.inj q), fun ps q => h4 ps (Option.some.inj q)⟩
    · rw [upd_ne w]
      exact s.exl a z
theorem Ext.other {D' : Addr} {o : HO} (x : Ext F H F' H') (h : H D' = none) : Ext F H F' (upd H' D' o) :=
  ⟨x.al, x.ex, x.len, x.lv, x.new, fun a e => by
    by_cases q : a = D'
    · subst q; exact h
    · rw [upd_ne q] at e; exact x.there a e, fun a u e ht hn => by rw [upd_ne (ne_of_none e h)]; exact x.keep a u e ht hn⟩
/-- the frame with one place more, with one less -/
def Fr.add (F : Fr) (D' : Addr) : Fr := { F with ex := fun a => F.ex a ∨ a = D' }
def Fr.rem (F : Fr) (D' : Addr) : Fr := { F with ex := fun a => F.ex a ∧ a ≠ D' }
theorem Ext.add {D' : Addr} (x : Ext F H F' H') (h : H D' = none) : Ext F H (F'.add D') H' :=
  ⟨x.al, fun a ha => ⟨fun z => z.elim (x.ex a ha).mp fun e => absurd (by rw [e]; exact h) ha, fun z => .inl ((x.ex a ha).mpr z)⟩, x.len, x.lv, x.new, x.there, x.keep⟩
theorem Ext.rem {D' : Addr} (x : Ext F H F' H') (h : H D' = none) : Ext F H (F'.rem D') H' :=
  ⟨x.al, fun a ha => ⟨fun z => (x.ex a ha).mp z.1, fun z => ⟨(x.ex a ha).mpr z, fun e => ha (by rw [e]; exact h)⟩⟩, x.len, x.lv, x.new, x.there, x.keep⟩
mutual
/-- what holds no cell, no lambda: from one frame and heap to another -/
theorem repB {G : Fr} {H H' : Hp} (go : ∀ a o, H a = some o → ¬ F.un a → (∀ ps, o ≠ .tbl ps) → (∀ x y, o ≠ .frz x (.own y)) → ¬ G.un a ∧ H' a = some o) : ∀ (d : D) (v : V), bareD d = true → Rep F H d v → Rep G H' d v
  | .non, _, _, h => h
  | .bl _, _, _, h => h
  | .int _, _, _, h => h
  | .str _, _, _, h => h
  | .lst ds, v, p, ⟨a, vs, e, hu, ha, hs⟩ => by
    obtain ⟨g1, g2⟩ := go a _ ha hu (fun _ z => nomatch z) (fun _ _ z => nomatch z)
    exact ⟨a, vs, e, g1, g2, repsB go ds vs (by rw [bareD] at p; exact p) hs⟩
  | .tup ds, v, p, ⟨a, vs, e, hu, ha, hs⟩ => by
    obtain ⟨g1, g2⟩ := go a _ ha hu (fun _ z => nomatch z) (fun _ _ z => nomatch z)
    exact ⟨a, vs, e, g1, g2, repsB go ds vs (by rw [bareD] at p; exact p) hs⟩
  | .dic ds, v, p, ⟨a, vs, e, hu, ha, hs⟩ => by
    obtain ⟨g1, g2⟩ := go a _ ha hu (fun _ z => nomatch z) (fun _ _ z => nomatch z)
    exact ⟨a, vs, e, g1, g2, repkB go ds vs (by rw [bareD] at p; exact p) hs⟩
  | .scr ns, v, _, ⟨a, o, e, hu, ha⟩ => by
    obtain ⟨g1, g2⟩ := go a _ ha hu (fun _ z => nomatch z) (fun _ _ z => nomatch z)
    exact ⟨a, o, e, g1, g2⟩
  | .cel k, v, p, h => by simp [bareD] at p
  | .exv k d, v, p, h => by simp [bareD] at p
  | .clo j d, v, p, h => by simp [bareD] at p
  | .fn _, _, _, h => h
theorem repsB {G : Fr} {H H' : Hp} (go : ∀ a o, H a = some o → ¬ F.un a → (∀ ps, o ≠ .tbl ps) → (∀ x y, o ≠ .frz x (.own y)) → ¬ G.un a ∧ H' a = some o) : ∀ (ds : List D) (vs : List V), bareDs ds = true → Reps F H ds vs → Reps G H' ds vs
  | [], _, _, h => h
  | d :: ds, _, p, ⟨v, r, e, h1, h2⟩ => by
    rw [bareDs, Bool.and_eq_true] at p
    exact ⟨v, r, e, repB go d v p.1 h1, repsB go ds r p.2 h2⟩
theorem repkB {G : Fr} {H H' : Hp} (go : ∀ a o, H a = some o → ¬ F.un a → (∀ ps, o ≠ .tbl ps) → (∀ x y, o ≠ .frz x (.own y)) → ¬ G.un a ∧ H' a = some o) : ∀ (ds : List (Key × D)) (vs : List (Key × V)), bareDk ds = true → RepK F H ds vs → RepK G H' ds vs
  | [], _, _, h => h
  | (k, d) :: ds, _, p, ⟨v, r, e, h1, h2⟩ => by
    rw [bareDk, Bool.and_eq_true] at p
    exact ⟨v, r, e, repB go d v p.1 h1, repkB go ds r p.2 h2⟩
end
theorem repcB {G : Fr} {H : Hp} (go : ∀ a, H a ≠ none → G.un a → F.un a) (cl : List (Str × Addr)) : ∀ (ds : List D) (ns : List Str), bareDs ds = true → RepC F H cl ds ns → RepC G H cl ds ns
  | [], _, _, h => h
  | d :: ds, _, p, ⟨y, r, c, co, u, v, e, hl, hu, hc, hd, rv, h1, h2⟩ => by
    rw [bareDs, Bool.and_eq_true] at p
    exact ⟨y, r, c, co, u, v, e, hl, fun z => hu (go c (by rw [hc]; exact fun z => nomatch z) z), hc, hd, rv, repB (fun a o ha hu _ _ => ⟨fun z => hu (go a (by rw [ha]; exact fun z => nomatch z) z), ha⟩) d v p.1 h1, repcB go cl ds r p.2 h2⟩
mutual
/-- what holds no cell stands in any frame -/
theorem repF {G : Fr} {H : Hp} (go : ∀ a, H a ≠ none → G.un a → F.un a) : ∀ (d : D) (v : V), freeD d = true → Rep F H d v → Rep G H d v
  | .non, _, _, h => h
  | .bl _, _, _, h => h
  | .int _, _, _, h => h
  | .str _, _, _, h => h
  | .lst ds, v, p, ⟨a, vs, e, hu, ha, hs⟩ => ⟨a, vs, e, fun z => hu (go a (by rw [ha]; exact fun z => nomatch z) z), ha, repsF go ds vs (by rw [freeD] at p; exact p) hs⟩
  | .tup ds, v, p, ⟨a, vs, e, hu, ha, hs⟩ => ⟨a, vs, e, fun z => hu (go a (by rw [ha]; exact fun z => nomatch z) z), ha, repsF go ds vs (by rw [freeD] at p; exact p) hs⟩
  | .dic ds, v, p, ⟨a, vs, e, hu, ha, hs⟩ => ⟨a, vs, e, fun z => hu (go a (by rw [ha]; exact fun z => nomatch z) z), ha, repkF go ds vs (by rw [freeD] at p; exact p) hs⟩
  | .scr ns, v, _, ⟨a, o, e, hu, ha⟩ => ⟨a, o, e, fun z => hu (go a (by rw [ha]; exact fun z => nomatch z) z), ha⟩
  | .cel k, v, p, h => by simp [freeD] at p
  | .exv k d, v, p, h => by simp [freeD] at p
  | .fn _, _, _, h => h
  | .clo j ds, v, p, ⟨f, c', q, ps, b, sc, cl, pm, ctv, e, hl, hu, hf, hu2, hc, hn, hm, hr⟩ => ⟨f, c', q, ps, b, sc, cl, pm, ctv, e, hl, fun z => hu (go f (by rw [hf]; exact fun z => nomatch z) z), hf, fun z => hu2 (go c' (by rw [hc]; exact fun z => nomatch z) z), hc, hn, hm, repcB go cl ds _ (by rw [freeD] at p; exact p) hr⟩
theorem repsF {G : Fr} {H : Hp} (go : ∀ a, H a ≠ none → G.un a → F.un a) : ∀ (ds : List D) (vs : List V), freeDs ds = true → Reps F H ds vs → Reps G H ds vs
  | [], _, _, h => h
  | d :: ds, _, p, ⟨v, r, e, h1, h2⟩ => by
    rw [freeDs, Bool.and_eq_true] at p
    exact ⟨v, r, e, repF go d v p.1 h1, repsF go ds r p.2 h2⟩
theorem repkF {G : Fr} {H : Hp} (go : ∀ a, H a ≠ none → G.un a → F.un a) : ∀ (ds : List (Key × D)) (vs : List (Key × V)), freeDk ds = true → RepK F H ds vs → RepK G H ds vs
  | [], _, _, h => h
  | (k, d) :: ds, _, p, ⟨v, r, e, h1, h2⟩ => by
    rw [freeDk, Bool.and_eq_true] at p
    exact ⟨v, r, e, repF go d v p.1 h1, repkF go ds r p.2 h2⟩
end
/-- fewer places that are not to be leant on -/
theorem Rep.less {G : Fr} (ha : ∀ k, k < F.st.length → G.al k = F.al k) (hs : F.st.length ≤ G.st.length) (hu : ∀ a, G.un a → F.un a) : (∀ (d : D) (v : V), Rep F H d v → Rep G H d v) ∧ (∀ (ds : List D) (vs : List V), Reps F H ds vs → Reps G H ds vs) ∧ (∀ (ds : List (Key × D)) (vs : List (Key × V)), RepK F H ds vs → RepK G H ds vs) :=
  ⟨fun d v h => repL ha hs hu d v h, fun d v h => repsL ha hs hu d v h, fun d v h => repkL ha hs hu d v h⟩
theorem Sto.rem {D' : Addr} (s : Sto F H) : Sto (F.rem D') H := by
  have hu : ∀ a, (F.rem D').un a → F.un a := fun a h => h.elim (fun z => .inl z.1) .inr
  obtain ⟨_, r2, r3⟩ := Rep.less (F := F) (G := F.rem D') (H := H) (fun _ _ => rfl) (Nat.le_refl _) hu
  refine ⟨fun k c e => ?_, s.inj, fun k hk h => s.nex k hk h.1, fun a h => s.ext a h.1, s.tab, fun a h => s.exl a h.1⟩
  have q := s.ce k c e
  cases c with
  | lst ds =>
    obtain ⟨vs, q1, r⟩ := q
    exact ⟨vs, q1, r2 _ _ r⟩
  | dic ds =>
    obtain ⟨vs, q1, r⟩ := q
    exact ⟨vs, q1, r3 _ _ r⟩
  | gone => trivial
/-- a new object, and its place taken out -/
theorem Sto.start {D' : Addr} (s : Sto F H) (o : HO) (h : H D' = none) (h3 : ∀ φ, o ≠ .ext φ := by intro _ z; cases z) (h4 : ∀ ps, o ≠ .tbl ps := by intro _ z; cases z) : Sto (F.add D') (upd H D' o) := by
  have s1 := s.fresh o h
  have x := Ext.add (Ext.fresh F o h) h
  refine ⟨fun k c e => ?_, s.inj, fun k hk z => ?_, fun a z => ?_, s1.tab, fun a z => ?_⟩
  · by_cases hg : c = .gone
    · subst hg; trivial
    · have hl : Live F.st k := ⟨c, e, hg⟩
      have hn : F.al k ≠ D' := fun z => s.there hl (by rw [z]; exact h)
      have q := s.ce k c e
      have eq : upd H D' o (F.al k) = H (F.al k) := upd_ne hn
      cases c with
      | lst ds =>
        obtain ⟨vs, q1, r⟩ := q
        exact ⟨vs, eq.trans q1, r.ext x⟩
      | dic ds =>
        obtain ⟨vs, q1, r⟩ := q
        exact ⟨vs, eq.trans q1, r.ext x⟩
      | gone => trivial
  · rcases z with z | z
    · exact s.nex k hk z
    · have z : F.al k = D' := z
      exact s.there hk (by rw [z]; exact h)
  · rcases z with z | z
    · exact s1.ext a z
    · rw [z, upd_same]; exact fun z => nomatch z
  · rcases z with z | z
    · exact s1.exl a z
    · rw [z, upd_same]
      exact ⟨fun φ q => h3 φ (Option.some.inj q), fun ps q => h4 ps (Option.some.inj q)⟩
theorem Sto.nuA (s : Sto F H) {a : Addr} (h : F.un a) : (∀ φ, H a ≠ some (.ext φ)) ∧ ∀ ps, H a ≠ some (.tbl ps) := by
  rcases h with h | ⟨k, ⟨o, hk, ho⟩, ek⟩
  · exact s.exl a h
  · have q := s.ce k o hk
    rw [ek] at q
    cases o with
    | lst ds =>
      obtain ⟨vs, q1, _⟩ := q
      rw [q1]
      exact ⟨fun _ z => (by cases z), fun _ z => (by cases z)⟩
    | dic ds =>
      obtain ⟨vs, q1, _⟩ := q
      rw [q1]
      exact ⟨fun _ z => (by cases z), fun _ z => (by cases z)⟩
    | gone => exact absurd rfl ho
/-- what is known of one object alone may be leant on -/
theorem Sto.nux (s : Sto F H) {a : Addr} {φ : Heap → Prop} (e : H a = some (.ext φ)) : ¬ F.un a := fun h => (s.nuA h).1 φ e
end
end MP
end
section
set_option maxRecDepth 100000
set_option maxHeartbeats 4000000
/-! MPOk: when a compact tree is that of a written expression. -/
namespace MP
open PySem L2

/-! ### parts of a written expression -/
def asName : Expr → Option Str
  | .Name x _ => some x
  | _ => none
theorem asName_eq {x : Expr} {n : Str} (h : asName x = some n) : ∃ p, x = .Name n p := by
  unfold asName at h
  split at h
  · cases h; exact ⟨_, rfl⟩
  · cases h
def asConst : Expr → Option Const
  | .Constant k _ _ => some k
  | _ => none
theorem asConst_eq {x : Expr} {n : Const} (h : asConst x = some n) : ∃ j p, x = .Constant n j p := by
  unfold asConst at h
  split at h
  · cases h; exact ⟨_, _, rfl⟩
  · cases h
def asBin : Expr → Option (Expr × Operator × Expr)
  | .BinOp a o b _ => some (a, o, b)
  | _ => none
theorem asBin_eq {x a b : Expr} {o : Operator} (h : asBin x = some (a, o, b)) : ∃ p, x = .BinOp a o b p := by
  unfold asBin at h
  split at h
  · cases h; exact ⟨_, rfl⟩
  · cases h
def asUn : Expr → Option (UnaryOp × Expr)
  | .UnaryOp o a _ => some (o, a)
  | _ => none
theorem asUn_eq {x a : Expr} {o : UnaryOp} (h : asUn x = some (o, a)) : ∃ p, x = .UnaryOp o a p := by
  unfold asUn at h
  split at h
  · cases h; exact ⟨_, rfl⟩
  · cases h
def asCmp1 : Expr → Option (Expr × CmpOp × Expr)
  | .Compare a [o] [b] _ => some (a, o, b)
  | _ => none
theorem asCmp1_eq {x a b : Expr} {o : CmpOp} (h : asCmp1 x = some (a, o, b)) : ∃ p, x = .Compare a [o] [b] p := by
  unfold asCmp1 at h
  split at h
  · cases h; exact ⟨_, rfl⟩
  · cases h
def asCmp2 : Expr → Option (Expr × CmpOp × Expr × CmpOp × Expr)
  | .Compare a [o, q] [b, c] _ => some (a, o, b, q, c)
  | _ => none
theorem asCmp2_eq {x a b c : Expr} {o q : CmpOp} (h : asCmp2 x = some (a, o, b, q, c)) : ∃ p, x = .Compare a [o, q] [b, c] p := by
  unfold asCmp2 at h
  split at h
  · cases h; exact ⟨_, rfl⟩
  · cases h
/-- and, or: the first operand; what is behind it -/
def asAnd : Expr → Option (Expr × Expr)
  | .BoolOp .And (a :: b :: c :: r) p => some (a, .BoolOp .And (b :: c :: r) p)
  | .BoolOp .And [a, b] _ => some (a, b)
  | _ => none
theorem asAnd_eq {x a b : Expr} (h : asAnd x = some (a, b)) : (∃ p, x = .BoolOp .And [a, b] p) ∨ ∃ b' c r p, x = .BoolOp .And (a :: b' :: c :: r) p ∧ b = .BoolOp .And (b' :: c :: r) p := by
  unfold asAnd at h
  split at h
  · cases h; exact .inr ⟨_, _, _, _, rfl, rfl⟩
  · cases h; exact .inl ⟨_, rfl⟩
  · cases h
def asOr : Expr → Option (Expr × Expr)
  | .BoolOp .Or (a :: b :: c :: r) p => some (a, .BoolOp .Or (b :: c :: r) p)
  | .BoolOp .Or [a, b] _ => some (a, b)
  | _ => none
theorem asOr_eq {x a b : Expr} (h : asOr x = some (a, b)) : (∃ p, x = .BoolOp .Or [a, b] p) ∨ ∃ b' c r p, x = .BoolOp .Or (a :: b' :: c :: r) p ∧ b = .BoolOp .Or (b' :: c :: r) p := by
  unfold asOr at h
  split at h
  · cases h; exact .inr ⟨_, _, _, _, rfl, rfl⟩
  · cases h; exact .inl ⟨_, rfl⟩
  · cases h
def asIf : Expr → Option (Expr × Expr × Expr)
  | .IfExp t a b _ => some (t, a, b)
  | _ => none
theorem asIf_eq {x t a b : Expr} (h : asIf x = some (t, a, b)) : ∃ p, x = .IfExp t a b p := by
  unfold asIf at h
  split at h
  · cases h; exact ⟨_, rfl⟩
  · cases h
def asList : Expr → Option (List Expr)
  | .List es _ => some es
  | _ => none
theorem asList_eq {x : Expr} {es : List Expr} (h : asList x = some es) : ∃ p, x = .List es p := by
  unfold asList at h
  split at h
  · cases h; exact ⟨_, rfl⟩
  · cases h
def asTup : Expr → Option (List Expr)
  | .Tuple es _ _ => some es
  | _ => none
theorem asTup_eq {x : Expr} {es : List Expr} (h : asTup x = some es) : ∃ k p, x = .Tuple es k p := by
  unfold asTup at h
  split at h
  · cases h; exact ⟨_, _, rfl⟩
  · cases h
def isDic0 : Expr → Bool
  | .Dict [] [] _ => true
  | _ => false
theorem isDic0_eq {x : Expr} (h : isDic0 x = true) : ∃ p, x = .Dict [] [] p := by
  unfold isDic0 at h
  split at h
  · exact ⟨_, rfl⟩
  · cases h
def isSlice : Expr → Bool
  | .Slice _ _ _ _ => true
  | _ => false
def asSub : Expr → Option (Expr × Expr)
  | .Subscript a b _ => some (a, b)
  | _ => none
theorem asSub_eq {x a b : Expr} (h : asSub x = some (a, b)) : ∃ p, x = .Subscript a b p := by
  unfold asSub at h
  split at h
  · cases h; exact ⟨_, rfl⟩
  · cases h
def asSlc : Expr → Option (Expr × Option Expr × Option Expr)
  | .Subscript a (.Slice lo hi none _) _ => some (a, lo, hi)
  | _ => none
theorem asSlc_eq {x a : Expr} {lo hi : Option Expr} (h : asSlc x = some (a, lo, hi)) : ∃ q p, x = .Subscript a (.Slice lo hi none q) p := by
  unfold asSlc at h
  split at h
  · cases h; exact ⟨_, _, rfl⟩
  · cases h
def asRev : Expr → Option Expr
  | .Subscript a (.Slice none none (some (.UnaryOp .USub (.Constant (.int 1) _ _) _)) _) _ => some a
  | _ => none
theorem asRev_eq {x a : Expr} (h : asRev x = some a) : ∃ k p1 p2 p3 p, x = .Subscript a (.Slice none none (some (.UnaryOp .USub (.Constant (.int 1) k p1) p2)) p3) p := by
  unfold asRev at h
  split at h
  · cases h; exact ⟨_, _, _, _, _, rfl⟩
  · cases h
def asRvb : Expr → Option (Expr × Nat)
  | .Subscript a (.Slice none (some (.Constant (.int (.ofNat n)) _ _)) (some (.UnaryOp .USub (.Constant (.int 1) _ _) _)) _) _ => some (a, n)
  | _ => none
theorem asRvb_eq {x a : Expr} {n : Nat} (h : asRvb x = some (a, n)) : ∃ j p0 k p1 p2 p3 p, x = .Subscript a (.Slice none (some (.Constant (.int (.ofNat n)) j p0)) (some (.UnaryOp .USub (.Constant (.int 1) k p1) p2)) p3) p := by
  unfold asRvb at h
  split at h
  · cases h; exact ⟨_, _, _, _, _, _, _, rfl⟩
  · cases h
def asLc : Expr → Option (Expr × Expr × Expr × List Expr × Scope)
  | .ListComp x [⟨tg, it, ifs, 0⟩] sc _ => some (x, tg, it, ifs, sc)
  | _ => none
theorem asLc_eq {y x tg it : Expr} {ifs : List Expr} {sc : Scope} (h : asLc y = some (x, tg, it, ifs, sc)) : ∃ p, y = .ListComp x [⟨tg, it, ifs, 0⟩] sc p := by
  unfold asLc at h
  split at h
  · cases h; exact ⟨_, rfl⟩
  · cases h
def asCall : Expr → Option (Str × List Expr)
  | .Call (.Name f _) es [] _ => some (f, es)
  | _ => none
theorem asCall_eq {x : Expr} {f : Str} {es : List Expr} (h : asCall x = some (f, es)) : ∃ p q, x = .Call (.Name f p) es [] q := by
  unfold asCall at h
  split at h
  · cases h; exact ⟨_, _, rfl⟩
  · cases h
def asMeth : Expr → Option (Expr × Str × List Expr)
  | .Call (.Attribute o m ap) es [] cp => if (ap.endLine == cp.line) = true then some (o, m, es) else none
  | _ => none
theorem asMeth_eq {x o : Expr} {m : Str} {es : List Expr} (h : asMeth x = some (o, m, es)) : ∃ ap cp, x = .Call (.Attribute o m ap) es [] cp ∧ (ap.endLine == cp.line) = true := by
  unfold asMeth at h
  split at h
  · split at h
    · cases h; exact ⟨_, _, rfl, by assumption⟩
    · cases h
  · cases h
def asLam : Expr → Option (Arguments × Expr × Scope)
  | .Lambda ps b sc _ => some (ps, b, sc)
  | _ => none
theorem asLam_eq {x b : Expr} {ps : Arguments} {sc : Scope} (h : asLam x = some (ps, b, sc)) : ∃ p, x = .Lambda ps b sc p := by
  unfold asLam at h
  split at h
  · cases h; exact ⟨_, rfl⟩
  · cases h
def asCallK : Expr → Option (Str × List Expr × List Keyword)
  | .Call (.Name f _) es ks _ => some (f, es, ks)
  | _ => none
theorem asCallK_eq {x : Expr} {f : Str} {es : List Expr} {ks : List Keyword} (h : asCallK x = some (f, es, ks)) : ∃ p q, x = .Call (.Name f p) es ks q := by
  unfold asCallK at h
  split at h
  · cases h; exact ⟨_, _, rfl⟩
  · cases h
def asAttr : Expr → Option (Expr × Str)
  | .Attribute o a _ => some (o, a)
  | _ => none
theorem asAttr_eq {x o : Expr} {a : Str} (h : asAttr x = some (o, a)) : ∃ p, x = .Attribute o a p := by
  unfold asAttr at h
  split at h
  · cases h; exact ⟨_, rfl⟩
  · cases h
def isStar : Expr → Bool
  | .Starred _ _ => true
  | _ => false
def baseB : Expr → Bool
  | .Call (.Name _ _) [] [] _ => false
  | _ => true
theorem baseB_ok {o : Expr} {a : Str} {env : Env} {w : Sem Value} (h : baseB o = true) : attributeBase o a env w = w := by
  unfold attributeBase
  split
  · cases h
  · rfl
theorem star_cons {x : Expr} {xs : List Expr} {env : Env} (h : isStar x = false) : starEach (x :: xs) env = (false, eval x env) :: starEach xs env := by
  cases x <;> first | rfl | cases h
def noStars (xs : List Expr) : Bool := xs.all fun x => !isStar x
theorem stars {xs : List Expr} {env : Env} (h : noStars xs = true) : starEach xs env = xs.map fun x => (false, eval x env) := by
  induction xs with
  | nil => rfl
  | cons x r ih =>
    unfold noStars at h
    rw [List.all_cons, Bool.and_eq_true, Bool.not_eq_true'] at h
    rw [star_cons h.1, ih h.2]
    rfl
theorem stars_any {xs : List Expr} {env : Env} {pos : Pos} (h : noStars xs = true) : (backTo pos (starEach xs env)).any (·.1) = false := by
  rw [stars h]
  unfold backTo
  induction xs with
  | nil => rfl
  | cons x r ih =>
    unfold noStars at h
    rw [List.all_cons, Bool.and_eq_true] at h
    rw [List.map_cons, List.map_cons, List.any_cons, ih h.2]
    rfl
theorem stars_all {xs : List Expr} {env : Env} {pos : Pos} (h : noStars xs = true) : (backTo pos (starEach xs env)).all (fun x => !x.1) = true := by
  rw [stars h]
  unfold backTo
  induction xs with
  | nil => rfl
  | cons x r ih =>
    unfold noStars at h
    rw [List.all_cons, Bool.and_eq_true] at h
    rw [List.map_cons, List.map_cons, List.all_cons, ih h.2]
    rfl
def notSet : Expr → Bool
  | .Set _ _ _ => false
  | _ => true
theorem notSet_ok {e : Expr} {env : Env} (h : notSet e = true) : ∀ x, foldedSetIterable e env x = pure x := by
  intro x
  cases e <;> first | rfl | cases h
theorem any_one {x : Expr} {env : Env} {pos : Pos} (h : isStar x = false) : (backTo pos (starEach [x] env)).any (·.1) = false := by
  rw [star_cons h]
  rfl
end MP
end
section
set_option maxRecDepth 100000
set_option maxHeartbeats 4000000
/-! MPSnd1: what it is to come through; the static look; the context. -/
namespace MP
open PySem L2
variable [Glo]

/-! ### behind a step -/
def Aft {α β : Type} (Rel : Fr → Hp → α → β → Prop) (C : Nat → Addr) (We : Value → Option Addr → Hp → Prop) (F : Fr) (H : Hp) (r : R α) (Q : Fr → Hp → α → β → Prop) : Prop := match r with
  | .ok a st => ∀ F' H' b, F'.st = st → Ext F H F' H' → Sto F' H' → Rel F' H' a b → Q F' H' a b
  | .exc k d st => ∀ F' H' dx v, F'.st = st → Ext F H F' H' → Sto F' H' → H' dx = some (.xd [(("value" : Str), v)]) → ¬ F'.un dx → H dx = none → Rep F' H' d v → We (.ref (C k)) (some dx) H'
  | .bad => False
section
variable {α β α₂ β₂ : Type} {Rel : Fr → Hp → α → β → Prop} {Rel₂ : Fr → Hp → α₂ → β₂ → Prop} {C : Nat → Addr} {We : Value → Option Addr → Hp → Prop} {F F₁ : Fr} {H H₁ : Hp} {r : R α}
theorem Aft.mono {Q Q' : Fr → Hp → α → β → Prop} (h : Aft Rel C We F H r Q) (hq : ∀ F' H' a b, Ext F H F' H' → Sto F' H' → Rel F' H' a b → Q F' H' a b → Q' F' H' a b) : Aft Rel C We F H r Q' := by
  cases r with
  | ok a st => exact fun F' H' b e x s q => hq F' H' a b x s q (h F' H' b e x s q)
  | exc k d st => exact h
  | bad => exact h
theorem Aft.later {Q : Fr → Hp → α → β → Prop} (x : Ext F H F₁ H₁) (h : Aft Rel C We F H r Q) : Aft Rel C We F₁ H₁ r Q := by
  cases r with
  | ok a st => exact fun F' H' b e y s q => h F' H' b e (x.trans y) s q
  | exc k d st => exact fun F' H' dx v e y s hd hu hn hr => h F' H' dx v e (x.trans y) s hd hu (x.there dx hn) hr
  | bad => exact h
/-- a step, then another -/
theorem Aft.bind {Q : Fr → Hp → α₂ → β₂ → Prop} {f : α → Store → R α₂} (h : Aft Rel₂ C We F H (r.bind f) Q) :
    Aft Rel C We F H r (fun F₁ H₁ a _ => Aft Rel₂ C We F₁ H₁ (f a F₁.st) Q) := by
  cases r with
  | ok a st =>
    intro F' H' b e x s q
    subst e
    exact Aft.later x h
  | exc k d st => exact h
  | bad => exact h
/-- an answer without a step -/
theorem Aft.now {Q : Fr → Hp → α → β → Prop} {o : Option α} (h : Aft Rel C We F H (ofO o F.st) Q) (s : Sto F H) : ∃ a, o = some a ∧ ∀ b, Rel F H a b → Q F H a b := by
  cases o with
  | none => exact h.elim
  | some a => exact ⟨a, rfl, fun b q => h F H b rfl (Ext.refl F H) s q⟩
theorem Aft.ok_now {Q : Fr → Hp → α → β → Prop} {a : α} (h : Aft Rel C We F H (.ok a F.st) Q) (s : Sto F H) {b : β} (q : Rel F H a b) : Q F H a b := h F H b rfl (Ext.refl F H) s q
end

/-! ### an expression's reading -/
def Eqr {α : Type} : Fr → Hp → α → α → Prop := fun _ _ a b => a = b
def evT (C : Nat → Addr) (W : WX) (c : Cxt) (e : Ex) : TE := fun σ H Q => ∃ F ρ, Sto F H ∧ Slo F H ρ σ ∧ Aft Rep C (fun cl d H' => W cl d σ H') F H (ev c e ρ F.st) fun _ H' _ v => Q v H'
def evsT (C : Nat → Addr) (W : WX) (c : Cxt) (es : Exs) : TA := fun σ H Q => ∃ F ρ, Sto F H ∧ Slo F H ρ σ ∧ Aft Reps C (fun cl d H' => W cl d σ H') F H (evs c es ρ F.st) fun _ H' _ vs => Q vs H'
def evTT (C : Nat → Addr) (W : WX) (c : Cxt) (e : Ex) : TT := fun σ H Q => ∃ F ρ, Sto F H ∧ Slo F H ρ σ ∧ Aft Eqr C (fun cl d H' => W cl d σ H') F H ((ev c e ρ F.st).bind fun d st => ofO (tb d) st) fun _ H' _ b => Q b H'
/-- a promise -/
def spF (C : Nat → Addr) (c : Cxt) (f : Nat) : Sp := fun vs H Q E => ∃ F ds, Sto F H ∧ Reps F H ds vs ∧ Aft Rep C (fun cl d H' => E cl d H') F H (c.cal f ds F.st) fun _ H' _ v => Q v H'

/-! ### the static look -/
structure SE where
  N : List Str
  sc : Scope
  fn : Str → Bool
  /-- a def that makes lambdas -/
  ml : Bool := false
structure Tab where
  fns : List Str
  con : List Str
  exc : List Str
  kws : List (Nat × Nat × List Str × List Nat)
  /-- the defs that make lambdas -/
  mks : List Nat := []
  /-- which written lambda is the j-th, which names it holds -/
  lk : Nat → Arguments → Expr → Scope → Bool := fun _ _ _ _ => false
  ln : Nat → List Str := fun _ => []
def visB (sc : Scope) (x : Str) : Bool := match sc.names.lookup x with
  | some .local => true
  | some .cell => true
  | some .free => true
  | _ => false
theorem visB_ok {sc : Scope} {x : Str} (h : visB sc x = true) : Vis sc x := by
  unfold visB at h
  split at h
  · exact .inl (by assumption)
  · exact .inr (.inl (by assumption))
  · exact .inr (.inr (by assumption))
  · cases h
def gloB (sc : Scope) (x : Str) : Bool := match sc.names.lookup x with
  | some .globalImplicit => true
  | _ => false
theorem gloB_ok {X : Cx} {x : Str} (h : gloB X.env.scope x = true) : Gl X x := by
  unfold gloB at h
  split at h
  · rename_i e
    exact e
  · cases h
def okNm (x : Str) : Bool := !(x == ("__debug__" : Str)) && (!(x == ("__classdict__" : Str)) && !decide (x = ("__name__" : Str)))
theorem okNm_ok {x : Str} (h : okNm x = true) : (x == ("__debug__" : Str)) = false ∧ (x == ("__classdict__" : Str)) = false ∧ x ≠ "__name__" := by
  unfold okNm at h
  simp only [Bool.and_eq_true, Bool.not_eq_true', decide_eq_false_iff_not] at h
  exact ⟨h.1, h.2.1, h.2.2⟩
def okK : D → Const → Bool
  | .non, .none => true
  | .bl a, .bool b => a == b
  | .int a, .int b => decide (a = b)
  | .str a, .str b => decide (a = b)
  | _, _ => false
def okBo : Bo → Operator → Bool
  | .add, .Add => true
  | .sub, .Sub => true
  | .mul, .Mult => true
  | .fdv, .FloorDiv => true
  | .mod, .Mod => true
  | .pow, .Pow => true
  | _, _ => false
def okCo : Co → CmpOp → Bool
  | .lt, .Lt => true
  | .le, .LtE => true
  | .gt, .Gt => true
  | .ge, .GtE => true
  | .eq, .Eq => true
  | .ne, .NotEq => true
  | .isin, .In => true
  | .nin, .NotIn => true
  | .is_, .Is => true
  | .isn, .IsNot => true
  | _, _ => false
def isE : Ty → Bool
  | .exc _ => true
  | .ver => true
  | _ => false
def tyName : Ty → Str
  | .int => "int"
  | .bool => "bool"
  | .str => "str"
  | .list => "list"
  | .tuple => "tuple"
  | .dict => "dict"
  | .exc _ => ""
  | .ver => "ValueError"
def blName : Bf → Str
  | .len => "len"
  | .any => "any"
  | .all => "all"
  | .sum => "sum"
  | .sum2 => "sum"
  | .sorted => "sorted"
  | .int => "int"
  | .str => "str"
  | .list => "list"
  | .tuple => "tuple"
  | .max2 => "max"
  | .min2 => "min"
  | .max => "max"
  | .abs => "abs"
  | .isi _ => "isinstance"
  | .isis _ => "isinstance"
  | .repr => "repr"
  | .lrng => "list"
  | .ord => "ord"
def mtName : Mt → Str
  | .append => "append"
  | .pop => "pop"
  | .popAt => "pop"
  | .index => "index"
  | .count => "count"
  | .join => "join"
  | .split => "split"
  | .bits => "bit_length"
def bnames : List Str := ["len", "any", "all", "sum", "sorted", "int", "bool", "dict", "str", "list", "tuple", "max", "min", "abs", "isinstance", "repr", "ord", "range", "enumerate", "zip", "ValueError"]
def ownS (N : List Str) (own : List Nat) : List (Str × Nat) := own.filterMap fun i => (N[i]?).map fun x => (x, i)
def SE.blk (se : SE) (sc : Scope) : SE := { se with sc := relS sc se.sc, fn := (fun x => sc.names.lookup x == some .cell), ml := false }
def locB (se : SE) (x : Str) : Bool := match se.sc.names.lookup x with
  | some .local => true
  | some .cell => se.fn x
  | _ => false
def okNames (se : SE) : List Nat → List Expr → Bool
  | [], [] => true
  | i :: is, x :: xs => (match asName x with
    | some n => decide (se.N[i]? = some n) && locB se n
    | none => false) && okNames se is xs
  | _, _ => false
def okG (se : SE) (tg : List Nat) (tp : Bool) (x : Expr) : Bool := if tp then (match asTup x with
  | some xs => okNames se tg xs
  | none => false) else okNames se tg [x] && decide (tg.length = 1)
/-- a lambda without defaults -/
def noDef (ps : Arguments) : Bool := ps.defaults.isEmpty && ps.kw_defaults.isEmpty
/-- the j-th lambda, which holds these slots, each a cell of the def -/
def okLam (T : Tab) (se : SE) (j : Nat) (is : List Nat) (x : Expr) : Bool := match asLam x with
  | some (ps, b, sc) => se.ml && (T.lk j ps b sc && (noDef ps && (decide (is.map (fun i => se.N[i]?) = (T.ln j).map some) && ((T.ln j).all (fun y => se.fn y && (decide (se.sc.names.lookup y = some .cell) && decide (sc.names.lookup y = some .free))) && sc.names.all (fun y => !decide (y.2 = .free) || (T.ln j).contains y.1)))))
  | none => false
mutual
def okE (T : Tab) : SE → Ex → Expr → Bool
  | se, .nm i, x => match asName x with
    | some n => decide (se.N[i]? = some n) && (visB se.sc n && okNm n)
    | none => false
  | _, .kn d, x => match asConst x with
    | some k => okK d k
    | none => false
  | se, .con g, x => match asName x with
    | some n => decide (T.con[g]? = some n) && (gloB se.sc n && okNm n)
    | none => false
  | se, .bin op a b, x => match asBin x with
    | some (a', o, b') => okBo op o && (okE T se a a' && okE T se b b')
    | none => false
  | se, .neg a, x => match asUn x with
    | some (.USub, a') => okE T se a a'
    | _ => false
  | se, .cmp op a b, x => match asCmp1 x with
    | some (a', o, b') => okCo op o && (!behindInMarks o b' && (okE T se a a' && okE T se b b'))
    | none => false
  | se, .chn o p a b d, x => match asCmp2 x with
    | some (a', o', b', p', d') => okCo o o' && (okCo p p' && (!lastMarks [o', p'] [b', d'] && (okE T se a a' && (okE T se b b' && okE T se d d'))))
    | none => false
  | se, .and a b, x => match asAnd x with
    | some (a', b') => okE T se a a' && okE T se b b'
    | none => false
  | se, .or a b, x => match asOr x with
    | some (a', b') => okE T se a a' && okE T se b b'
    | none => false
  | se, .not a, x => match asUn x with
    | some (.Not, a') => okE T se a a'
    | _ => false
  | se, .ife t a b, x => match asIf x with
    | some (t', a', b') => okE T se t t' && (okE T se a a' && okE T se b b')
    | none => false
  | se, .lst es, x => match asList x with
    | some xs => okEs T se es xs
    | none => false
  | se, .tup es, x => match asTup x with
    | some xs => okEs T se es xs
    | none => false
  | _, .dic0, x => isDic0 x
  | se, .sub a b, x => match asSub x with
    | some (a', b') => !isSlice b' && (okE T se a a' && okE T se b b')
    | none => false
  | se, .slc a lo hi, x => match asSlc x with
    | some (a', l, h) => okE T se a a' && (okO T se lo l && okO T se hi h)
    | none => false
  | se, .rev a, x => match asRev x with
    | some a' => okE T se a a'
    | none => false
  | se, .rvb a n, x => match asRvb x with
    | some (a', m) => decide (n = m) && okE T se a a'
    | none => false
  | se, .lc y tg tp s i own, x => match asLc x with
    | some (y', tg', it, ifs, sc) => notSet it && (okS T se tg' s it && (okT T (se.blk sc) i ifs && (okE T (se.blk sc) y y' && (okG (se.blk sc) tg tp tg' && (blkC se.N se.sc sc (ownS se.N own) && (decide ((ownS se.N own).map (·.2) = own) && decide (tg.all own.contains = true)))))))
    | none => false
  | se, .cal f es, x => match asCall x with
    | some (n, xs) => decide (T.fns[f]? = some n) && (gloB se.sc n && (okNm n && (okEs T se es xs && (noStars xs && !xs.isEmpty))))
    | none => false
  | se, .pur f es, x => match asCall x with
    | some (n, xs) => decide (T.fns[f]? = some n) && (gloB se.sc n && (okNm n && (okEs T se es xs && (noStars xs && !xs.isEmpty))))
    | none => false
  | se, .fn f, x => match asName x with
    | some n => decide (T.fns[f]? = some n) && (gloB se.sc n && okNm n)
    | none => false
  | se, .cav i es, x => match asCall x with
    | some (n, xs) => decide (se.N[i]? = some n) && (visB se.sc n && (okNm n && (okEs T se es xs && (noStars xs && !xs.isEmpty))))
    | none => false
  | se, .cac i es, x => match asCall x with
    | some (n, []) => decide (se.N[i]? = some n) && (visB se.sc n && (okNm n && okEs T se es []))
    | _ => false
  | se, .cll f j is es, x => match asCall x with
    | some (n, y :: xs) => decide (T.fns[f]? = some n) && (gloB se.sc n && (okNm n && (okLam T se j is y && (okEs T se es xs && noStars xs))))
    | _ => false
  | se, .cak f es ks ix, x => match asCallK x with
    | some (n, xs, kws) => decide (T.fns[f]? = some n) && (gloB se.sc n && (okNm n && (okEs T se es xs && (okEs T se ks (kws.map (·.value)) && (noStars xs && (kws.all (fun k => k.arg.isSome) && decide ((f, xs.length, kws.filterMap (·.arg), ix) ∈ T.kws)))))))
    | none => false
  | se, .val e, x => match asAttr x with
    | some (o, a) => decide (a = ("value" : Str)) && (okE T se e o && baseB o)
    | none => false
  | se, .blt b es, x => match asCall x with
    | some (n, xs) => decide (n = blName b) && (gloB se.sc n && (match b with
      | .isi t => (match xs with
        | [y, z] => (match asName z with
          | some tn => !isStar y && (okEs T se es [y] && (gloB se.sc tn && (okNm tn && (match t with
            | .exc k => decide (T.exc[k]? = some tn)
            | _ => decide (tn = tyName t)))))
          | none => false)
        | _ => false)
      | .isis ts => (match xs with
        | [y, z] => (match asTup z with
          | some zs => !isStar y && (!ts.isEmpty && (decide (ts.length < 9) && (okEs T se es [y] && (decide (zs.map asName = ts.map fun t => some (tyName t)) && (ts.all fun t => !isE t && gloB se.sc (tyName t))))))
          | none => false)
        | _ => false)
      | .lrng => (match xs with
        | [y] => (match asCall y with
          | some (r, [a]) => decide (r = ("range" : Str)) && (gloB se.sc r && (okEs T se es [a] && !isStar a))
          | _ => false)
        | _ => false)
      | _ => okEs T se es xs && (noStars xs && !xs.isEmpty)))
    | none => false
  | se, .met m a es, x => match asMeth x with
    | some (o, n, xs) => decide (n = mtName m) && (okE T se a o && (okEs T se es xs && (noStars xs && (baseB o && decide (xs.length < 9)))))
    | none => false
  | se, .mk e, x => (match e with
    | .lst _ => true
    | .lc _ _ _ _ _ _ => true
    | .bin .add _ _ => true
    | .blt .list (.cons _ .nil) => true
    | .dic0 => true
    | _ => false) && okE T se e x
  | se, .frz e, x => (match e with
    | .nm _ => true
    | .cal _ _ => true
    | .cav _ _ => true
    | .cak _ _ _ _ => true
    | _ => false) && okE T se e x
def okEs (T : Tab) : SE → Exs → List Expr → Bool
  | _, .nil, xs => xs.isEmpty
  | se, .cons e es, xs => match xs with
    | x :: r => okE T se e x && (!isStar x && okEs T se es r)
    | [] => false
def okO (T : Tab) : SE → Ox → Option Expr → Bool
  | _, .non, x => x.isNone
  | se, .som e, x => match x with
    | some y => okE T se e y
    | none => false
def okT (T : Tab) : SE → Ox → List Expr → Bool
  | _, .non, x => x.isEmpty
  | se, .som e, x => match x with
    | [y] => okE T se e y
    | _ => false
def okS (T : Tab) : SE → Expr → Sr → Expr → Bool
  | se, _, .lis e, x => okE T se e x
  | se, _, .tpl e, x => okE T se e x
  | se, _, .txt e, x => okE T se e x
  | se, _, .rg1 e, x => match asCall x with
    | some (n, [a]) => decide (n = ("range" : Str)) && (gloB se.sc n && (!isStar a && okE T se e a))
    | _ => false
  | se, _, .rg2 e f, x => match asCall x with
    | some (n, [a, b]) => decide (n = ("range" : Str)) && (gloB se.sc n && (!isStar a && (!isStar b && (okE T se e a && okE T se f b))))
    | _ => false
  | se, tg, .enu e, x => match asCall x with
    | some (n, [a]) => decide (n = ("enumerate" : Str)) && (gloB se.sc n && (!isStar a && (okE T se e a && (asTup tg).isSome)))
    | _ => false
  | se, tg, .zip true e f, x => match asCallK x with
    | some (n, [a, b], [k]) => decide (k.arg = some (Str.ofString "strict")) && (decide (asConst k.value = some (.bool true)) && (decide (n = ("zip" : Str)) && (gloB se.sc n && (!isStar a && (!isStar b && (okE T se e a && (okE T se f b && (asTup tg).isSome)))))))
    | _ => false
  | se, tg, .zip false e f, x => match asCall x with
    | some (n, [a, b]) => (decide (n = ("zip" : Str)) && (gloB se.sc n && (!isStar a && (!isStar b && (okE T se e a && (okE T se f b && (asTup tg).isSome))))))
    | _ => false
end
end MP
end
section
set_option maxRecDepth 100000
set_option maxHeartbeats 4000000
/-! MPSnd2: the context; operators. -/
namespace MP
open PySem L2
variable [Glo]

theorem imp_e {X : Cx} {x : Expr} {t t' : TE} (h : PE X x t) (q : ∀ σ H Q, t' σ H Q → t σ H Q) : PE X x t' := ⟨fun pins s σ H Q I w => h.run pins s σ H Q I (q σ H Q w)⟩
theorem imp_t {X : Cx} {x : Expr} {t t' : TT} (h : PT X x t) (q : ∀ σ H Q, t' σ H Q → t σ H Q) : PT X x t' := ⟨fun pins s σ H Q I w => h.run pins s σ H Q I (q σ H Q w)⟩
theorem imp_a {X : Cx} {x : List Expr} {t t' : TA} (h : PA X x t) (q : ∀ σ H Q, t' σ H Q → t σ H Q) : PA X x t' := ⟨fun pos pins s σ H Q I w => h.run pos pins s σ H Q I (q σ H Q w)⟩
theorem imp_w {X : Cx} {x : Expr} {t t' : TT} (h : PW X x t) (q : ∀ σ H Q, t' σ H Q → t σ H Q) : PW X x t' := ⟨fun wh pins s σ H Q I w => h.run wh pins s σ H Q I (q σ H Q w)⟩

section
variable {C : Nat → Addr} {W : WX} {c : Cxt}

/-- two steps in a row, read by the values -/
theorem two {a b : Ex} {F : Fr} {ρ : Sl} {σ : St} {H : Hp} {f : D → D → Store → R D} {Q : VK} (hs : Sto F H) (hl : Slo F H ρ σ)
    (h : Aft Rep C (fun cl d H' => W cl d σ H') F H ((ev c a ρ F.st).bind fun x st => (ev c b ρ st).bind fun y st => f x y st) fun _ H' _ v => Q v H')
    {R2 : V → V → Hp → Prop} (k : ∀ F2 H2 x y vx vy, Sto F2 H2 → Rep F2 H2 x vx → Rep F2 H2 y vy → Ext F H F2 H2 → Aft Rep C (fun cl d H' => W cl d σ H') F2 H2 (f x y F2.st) (fun _ H' _ v => Q v H') → R2 vx vy H2) :
    evT C W c a σ H fun vx H1 => evT C W c b σ H1 fun vy H2 => R2 vx vy H2 := by
  refine ⟨F, ρ, hs, hl, Aft.mono (Aft.bind h) fun F1 H1 x vx e1 s1 r1 h1 => ?_⟩
  refine ⟨F1, ρ, s1, hl.ext e1, Aft.mono (Aft.bind h1) fun F2 H2 y vy e2 s2 r2 h2 => ?_⟩
  exact k F2 H2 x y vx vy s2 (r1.ext e2) r2 (e1.trans e2) h2

/-! ### operators on values -/
theorem rep_int {F : Fr} {H : Hp} {i : Int} {v : V} (h : Rep F H (.int i) v) : v = .int i := h
/-- where a list is read -/
theorem items_rep {F : Fr} {H : Hp} {d : D} {v : V} {ds : List D} (s : Sto F H) (h : Rep F H d v) (e : items F.st d = some ds) : ∃ a vs, v = .ref a ∧ H a = some (.lst vs) ∧ Reps F H ds vs := by
  cases d with
  | lst es =>
    cases e
    obtain ⟨a, vs, q1, _, q2, q3⟩ := h
    exact ⟨a, vs, q1, q2, q3⟩
  | cel k =>
    obtain ⟨q1, hk⟩ := h
    have e : (match F.st[k]? with | some (.lst ds) => some ds | _ => none) = some ds := e
    split at e
    · rename_i es q
      cases e
      obtain ⟨vs, q2, q3⟩ := s.ce k _ q
      exact ⟨_, vs, q1, q2, q3⟩
    · cases e
  | _ => cases e
theorem line_eq : line = sizeLine := by rw [sizeLine_eq]; rfl
/-- a new list that may be leant on -/
theorem Rep.newL {F : Fr} {H : Hp} {p : Addr} {ds : List D} {vs : List V} (s : Sto F H) (hp : H p = none) (r : Reps F H ds vs) : Rep F (upd H p (.lst vs)) (.lst ds) (.ref p) :=
  ⟨p, vs, rfl, s.nun hp, upd_same, r.ext (Ext.fresh F _ hp)⟩
theorem Rep.newT {F : Fr} {H : Hp} {p : Addr} {ds : List D} {vs : List V} (s : Sto F H) (hp : H p = none) (r : Reps F H ds vs) : Rep F (upd H p (.tup vs)) (.tup ds) (.ref p) :=
  ⟨p, vs, rfl, s.nun hp, upd_same, r.ext (Ext.fresh F _ hp)⟩
theorem Reps.rep {F : Fr} {H : Hp} {ds : List D} {vs : List V} (r : Reps F H ds vs) : ∀ n, Reps F H (List.replicate n ds).flatten (List.replicate n vs).flatten
  | 0 => rfl
  | n + 1 => by
    rw [List.replicate_succ, List.replicate_succ, List.flatten_cons, List.flatten_cons]
    exact r.append (r.rep n)
/-- what is wanted of an answer that is there at once -/
theorem Aft.val {We : Value → Option Addr → Hp → Prop} {F : Fr} {H : Hp} {d : D} {v : V} {Q : VK} (h : Aft Rep C We F H (.ok d F.st) fun _ H' _ v => Q v H') (s : Sto F H) (r : Rep F H d v) : Q v H := h F H v rfl (Ext.refl F H) s r
/-- .. of a new object -/
theorem Aft.fresh {We : Value → Option Addr → Hp → Prop} {F : Fr} {H : Hp} {d : D} {v : V} {Q : VK} {p : Addr} {o : HO} (h : Aft Rep C We F H (.ok d F.st) fun _ H' _ v => Q v H') (s : Sto F H) (hp : H p = none) (r : Rep F (upd H p o) d v) : Q v (upd H p o) :=
  h F _ v rfl (Ext.fresh F o hp) (s.fresh o hp) r

theorem okMul_ok {i j : Int} (h : okMul i j = true) : CMul i j := by
  unfold okMul at h
  simp only [Bool.or_eq_true, Bool.and_eq_true, decide_eq_true_eq] at h
  exact h
/-- ints -/
def rBinI (op : Bo) : R2 := fun x y H Q => ∃ i j d, x = .int i ∧ y = .int j ∧ binI op i j = some d ∧ ∀ v, (∀ F H, Rep F H d v) → Q v H
theorem op_binI {X : Cx} {op : Bo} {o : Operator} (h : okBo op o = true) : OpR X (binaryOp o) (rBinI op) := by
  intro pins s σ H x y v u Q I rx ry ⟨i, j, d, ex, ey, e, q⟩
  cases op <;> cases o <;> first | cases h | skip
  · cases e
    exact op_add pins s σ H x y v u Q I rx ry ⟨i, j, ex, ey, q _ fun _ _ => rfl⟩
  · cases e
    exact op_sub pins s σ H x y v u Q I rx ry ⟨i, j, ex, ey, q _ fun _ _ => rfl⟩
  · unfold binI at e
    simp only at e
    split at e
    · cases e
      exact op_mul pins s σ H x y v u Q I rx ry ⟨i, j, ex, ey, okMul_ok (by assumption), q _ fun _ _ => rfl⟩
    · cases e
  · unfold binI at e
    simp only at e
    split at e
    · rename_i hc
      cases e
      simp only [Bool.and_eq_true, decide_eq_true_eq] at hc
      exact op_fdiv pins s σ H x y v u Q I rx ry ⟨i, j, ex, ey, hc, q _ fun _ _ => rfl⟩
    · cases e
  · unfold binI at e
    simp only at e
    split at e
    · cases e
      exact op_mod pins s σ H x y v u Q I rx ry ⟨i, j, ex, ey, by assumption, q _ fun _ _ => rfl⟩
    · cases e
  · unfold binI at e
    simp only at e
    split at e
    · rename_i hc
      cases e
      simp only [Bool.and_eq_true, decide_eq_true_eq] at hc
      exact opI (C := fun i j => 0 ≤ j ∧ (Builtin.Int.intBits i : Int) * j ≤ 134217728) (g := fun i j => i ^ j.toNat) (fun _ _ _ _ _ _ _ hc q => PyProof.Rows.pow_int hc.1 (Int.le_trans hc.2 (by decide)) q) pins s σ H x y v u Q I rx ry ⟨i, j, ex, ey, hc, q _ fun _ _ => rfl⟩
    · cases e
end
end MP
end
section
set_option maxRecDepth 100000
set_option maxHeartbeats 4000000
/-! MPSnd3: binary operators, comparisons, subscripts. -/
namespace MP
open PySem L2
variable [Glo]
section
variable {C : Nat → Addr} {W : WX} {c : Cxt}

/-- two values that are read, an answer that may be a new object -/
def rV2 (f : Store → D → D → Option D) : R2 := fun x y H Q => ∃ F d e z, Sto F H ∧ Rep F H d x ∧ Rep F H e y ∧ f F.st d e = some z ∧ ∀ H' v, Ext F H F H' → Sto F H' → Rep F H' z v → Q v H'

theorem mulOk_of {x : Str} {n : Int} (h1 : 2 ≤ n) (h2 : n ≤ 1000000) (h3 : 0 < x.length) (h4 : x.length * n.toNat ≤ line) : MulOk x n := by
  have hp : x.length ≤ x.length * n.toNat := Nat.le_mul_of_pos_right _ (by omega)
  have h4 : x.length * n.toNat ≤ 16777216 := h4
  refine ⟨?_, fun _ _ h => ?_, fun _ _ => PyProof.Rows.short24 h4⟩
  · rw [Bool.or_eq_false_iff]
    exact ⟨decide_eq_false (by omega), decide_eq_false (by omega)⟩
  · have h5 : (9000000000 : Int) ≤ (2 ^ 63 - 1) / n := by
      apply (Int.le_ediv_iff_mul_le (by omega)).mpr
      omega
    omega
theorem op_bin {X : Cx} {op : Bo} {o : Operator} (h : okBo op o = true) : OpR X (binaryOp o) (rV2 fun st a b => binD st op a b) := by
  intro pins s σ H x y v u Q I rx ry ⟨F, d, e, z, hs, rd, re, hz, q⟩
  replace hz : binD F.st op d e = some z := hz
  have q0 : ∀ v, Rep F H z v → Q v H := fun v r => q H v (Ext.refl F H) hs r
  unfold binD at hz
  split at hz
  · -- ints
    rename_i i j
    refine op_binI h pins s σ H x y v u Q I rx ry ⟨i, j, z, rd, re, hz, fun v r => q0 v (r F H)⟩
  · -- texts
    rename_i a b
    split at hz
    · split at hz
      · rename_i hl
        cases hz
        cases o <;> first | cases h | skip
        rw [line_eq] at hl
        exact op_add_str pins s σ H x y v u Q I rx ry ⟨a, b, rd, re, hl, q0 _ rfl⟩
      · cases hz
    · cases hz
  · -- a text, so many times
    rename_i x n
    split at hz
    · split at hz
      · rename_i hl
        cases hz
        cases o <;> first | cases h | skip
        simp only [Bool.and_eq_true, decide_eq_true_eq] at hl
        obtain ⟨⟨⟨h1, h2⟩, h3⟩, h4⟩ := hl
        obtain ⟨t, rfl⟩ := (show RelV (.str x) v from by rw [show _ = V.str x from rd] at rx; exact rx)
        obtain ⟨u', rfl⟩ := (show RelV (.int n) u from by rw [show _ = V.int n from re] at ry; exact ry)
        exact PySem.SB.mul (mulOk_of h1 h2 h3 h4) fun t' k => ⟨.str _, H, I.tok k, ⟨t', rfl⟩, q0 _ rfl⟩
      · cases hz
    · cases hz
  · -- tuples
    rename_i xs ys
    obtain ⟨a, vs, ea, ua, ha, ra⟩ := rd
    obtain ⟨b, us, eb, ub, hb, rb⟩ := re
    split at hz
    · split at hz
      · rename_i hl
        cases hz
        cases o <;> first | cases h | skip
        simp only [Bool.and_eq_true, decide_eq_true_eq, Bool.not_eq_true', List.isEmpty_eq_false_iff] at hl
        obtain ⟨⟨h1, h2⟩, h3⟩ := hl
        rw [line_eq, ra.length, rb.length] at h1
        have n1 : vs ≠ [] := fun z => h2 (List.eq_nil_of_length_eq_zero (by rw [ra.length, z]; rfl))
        have n2 : us ≠ [] := fun z => h3 (List.eq_nil_of_length_eq_zero (by rw [rb.length, z]; rfl))
        refine op_catT pins s σ H x y v u Q I rx ry ⟨a, b, vs, us, ea, eb, SqT.of ha, SqT.of hb, n1, h1, fun z => absurd z n2, fun _ p hp => ?_⟩
        exact q _ _ (Ext.fresh F _ hp) (hs.fresh _ hp) (Rep.newT hs hp (ra.append rb))
      · cases hz
    · cases hz
  · -- a list, so many times
    rename_i k _ _
    split at hz
    · rename_i xs hi
      split at hz
      · rename_i hl
        cases hz
        cases o <;> first | cases h | skip
        obtain ⟨a, vs, ea, ha, ra⟩ := items_rep hs rd hi
        simp only [Bool.and_eq_true, decide_eq_true_eq] at hl
        obtain ⟨⟨h1, h2⟩, h3⟩ := hl
        rw [line_eq, ra.length] at h3
        refine op_rep pins s σ H x y v u Q I rx ry ⟨a, k, vs, ea, re, ha, h1, h2, h3, fun p hp => ?_⟩
        exact q _ _ (Ext.fresh F _ hp) (hs.fresh _ hp) (Rep.newL hs hp (ra.rep _))
      · cases hz
    · cases hz
  · -- two lists
    split at hz
    · rename_i xs ys hi hj
      split at hz
      · rename_i hl
        cases hz
        cases o <;> first | cases h | skip
        obtain ⟨a, vs, ea, ha, ra⟩ := items_rep hs rd hi
        obtain ⟨b, us, eb, hb, rb⟩ := items_rep hs re hj
        rw [line_eq, ra.length, rb.length] at hl
        refine op_cat pins s σ H x y v u Q I rx ry ⟨a, b, vs, us, ea, eb, ha, hb, hl, fun p hp => ?_⟩
        exact q _ _ (Ext.fresh F _ hp) (hs.fresh _ hp) (Rep.newL hs hp (ra.append rb))
      · cases hz
    · cases hz

/-- an operation on values, of two evaluated ones -/
theorem evT_op {a b e : Ex} {f : Store → D → D → Option D} (he : ∀ ρ st, ev c e ρ st = (ev c a ρ st).bind fun x st => (ev c b ρ st).bind fun y st => ofO (f st x y) st) {σ : St} {H : Hp} {Q : VK} (h : evT C W c e σ H Q) :
    tOp (rV2 f) (evT C W c a) (evT C W c b) σ H Q := by
  obtain ⟨F, ρ, hs, hl, h⟩ := h
  rw [he] at h
  refine two hs hl h fun F2 H2 x y vx vy s2 r1 r2 e2 h2 => ?_
  cases hz : f F2.st x y with
  | none =>
    rw [hz] at h2
    exact h2.elim
  | some z =>
    rw [hz] at h2
    exact ⟨F2, x, y, z, s2, r1, r2, hz, fun H' v xe sn r => h2 F2 H' v rfl xe sn r⟩
theorem pe_bin {X : Cx} {a b : Ex} {x y : Expr} {op : Bo} {o : Operator} {p : Pos} (h : okBo op o = true) (ha : PE X x (evT C W c a)) (hb : PE X y (evT C W c b)) : PE X (.BinOp x o y p) (evT C W c (.bin op a b)) :=
  imp_e (pe_op (op_bin h) ha hb) fun _ _ _ w => evT_op (fun _ _ => by rw [ev]) w

/-! ### comparisons -/
def rV2b (f : Store → D → D → Option Bool) : R2 := fun x y H Q => ∃ F d e k, Sto F H ∧ Rep F H d x ∧ Rep F H e y ∧ f F.st d e = some k ∧ Q (.bl k) H

mutual
theorem Rep.dp {K : PySem.W.Frag} {F : Fr} {H : Hp} : ∀ (d : D) (v : V), pureD d = true → Rep F H d v → Dp K H v (toP d)
  | .non, v, _, r => by rw [show v = V.non from r]; rw [toP]; exact Dp.non
  | .bl b, v, _, r => by rw [show v = V.bl b from r]; rw [toP]; exact Dp.bl b
  | .int i, v, _, r => by rw [show v = V.int i from r]; rw [toP]; exact Dp.int i
  | .str i, v, _, r => by rw [show v = V.str i from r]; rw [toP]; exact Dp.str i
  | .lst ds, v, hp, ⟨a, vs, e, _, ha, rs⟩ => by
    rw [pureD] at hp
    rw [e, toP]
    exact Dp.lst (SqL.of ha) (Reps.dp ds vs hp rs)
  | .tup ds, v, hp, ⟨a, vs, e, _, ha, rs⟩ => by
    rw [pureD] at hp
    rw [e, toP]
    exact Dp.tup (SqT.of ha) (Reps.dp ds vs hp rs)
  | .dic _, _, hp, _ => by simp [pureD] at hp
  | .scr _, _, hp, _ => by simp [pureD] at hp
  | .cel _, _, hp, _ => by simp [pureD] at hp
  | .exv _ _, _, hp, _ => by simp [pureD] at hp
  | .fn _, _, hp, _ => by simp [pureD] at hp
theorem Reps.dp {K : PySem.W.Frag} {F : Fr} {H : Hp} : ∀ (ds : List D) (vs : List V), pureDs ds = true → Reps F H ds vs → DpAll K H vs (toPs ds)
  | [], vs, _, r => by
    rw [show vs = [] from r, toPs]
    exact DpAll.nil
  | d :: ds, _, hp, ⟨v, r, e, h1, h2⟩ => by
    rw [pureDs, Bool.and_eq_true] at hp
    rw [e, toPs]
    exact DpAll.cons (Rep.dp d v hp.1 h1) (Reps.dp ds r hp.2 h2)
end
theorem snap_dp {K : PySem.W.Frag} {F : Fr} {H : Hp} {d z : D} {v : V} (s : Sto F H) (r : Rep F H d v) (h : snap F.st d = some z) : Dp K H v (toP z) ∧ pureD z = true := by
  unfold snap at h
  split at h
  · rename_i k
    split at h
    · rename_i ds q
      split at h
      · rename_i hp
        cases h
        obtain ⟨e, _⟩ := r
        obtain ⟨vs, ha, rs⟩ := s.ce k _ q
        rw [e, toP]
        exact ⟨Dp.lst (SqL.of ha) (rs.dp _ _ hp), by rw [pureD]; exact hp⟩
      · cases h
    · cases h
  · split at h
    · rename_i hp
      cases h
      exact ⟨r.dp _ _ hp, hp⟩
    · cases h
theorem room64 {X : Cx} {k : Nat} (hr : Room k X.A) : X.A.units + 65 < cLine := by have := hr.un; omega

theorem op_eqF {X : Cx} {k : Nat} (hr : Room k X.A) : OpR X (compareOp .Eq) (rV2b eqD) := by
  intro pins s σ H x y v u Q I rx ry ⟨F, d, e, z, hs, rd, re, hz, q⟩
  unfold eqD at hz
  split at hz
  · rename_i a b ha hb
    split at hz
    · rename_i hsh
      cases hz
      simp only [Bool.and_eq_true] at hsh
      exact op_eqD (by have := room64 hr; omega) pins s σ H x y v u Q I rx ry ⟨_, _, (snap_dp hs rd ha).1, (snap_dp hs re hb).1, hsh.1, hsh.2, q⟩
    · cases hz
  · cases hz
theorem op_neF {X : Cx} {k : Nat} (hr : Room k X.A) : OpR X (compareOp .NotEq) (rV2b fun st a b => (eqD st a b).map (!·)) := by
  intro pins s σ H x y v u Q I rx ry ⟨F, d, e, z, hs, rd, re, hz, q⟩
  replace hz : (eqD F.st d e).map (!·) = some z := hz
  cases hq : eqD F.st d e with
  | none => rw [hq] at hz; cases hz
  | some r =>
    rw [hq] at hz
    cases hz
    unfold eqD at hq
    split at hq
    · rename_i a b ha hb
      split at hq
      · rename_i hsh
        cases hq
        simp only [Bool.and_eq_true] at hsh
        exact op_neD (by have := room64 hr; omega) pins s σ H x y v u Q I rx ry ⟨_, _, (snap_dp hs rd ha).1, (snap_dp hs re hb).1, hsh.1, hsh.2, q⟩
      · cases hq
    · cases hq
end
end MP
end
section
set_option maxRecDepth 100000
set_option maxHeartbeats 4000000
/-! MPSnd4: order, in, is; all comparisons. -/
namespace MP
open PySem L2 PyProof.Rows
variable [Glo]
theorem firstLt_map {e r : Nat → Bool} {fin : Bool} (g : Nat → Nat) : ∀ l : List Nat, SeqAt.firstLt e r fin (l.map g) = SeqAt.firstLt (fun j => e (g j)) (fun j => r (g j)) fin l
  | [] => rfl
  | j :: t => by
    show (if e (g j) = true then SeqAt.firstLt e r fin (t.map g) else r (g j)) = if e (g j) = true then SeqAt.firstLt (fun j => e (g j)) (fun j => r (g j)) fin t else r (g j)
    rw [firstLt_map g t]
theorem firstLt_lex : ∀ ns ms : List Int, SeqAt.firstLt (fun j => decide (ns.getD j 0 = ms.getD j 0)) (fun j => decide (ns.getD j 0 < ms.getD j 0)) (decide (ns.length < ms.length)) (List.range (min ns.length ms.length)) = HT.lexLt ns ms
  | [], [] => rfl
  | [], m :: ms => by simp [SeqAt.firstLt, HT.lexLt]
  | n :: ns, [] => by simp [SeqAt.firstLt, HT.lexLt]
  | n :: ns, m :: ms => by
    have e : min (n :: ns).length (m :: ms).length = min ns.length ms.length + 1 := by simp only [List.length_cons]; omega
    rw [e, List.range_succ_eq_map]
    show (if decide (n = m) = true then _ else decide (n < m)) = if n = m then HT.lexLt ns ms else decide (n < m)
    by_cases q : n = m
    · rw [if_pos (by simpa using q), if_pos q, ← firstLt_lex ns ms, firstLt_map]
      simp
    · rw [if_neg (by simpa using q), if_neg q]
theorem intsD_map : ∀ {ds : List D} {ns : List Int}, intsD ds = some ns → ds = ns.map D.int
  | [], ns, h => by
    cases h
    rfl
  | d :: r, ns, h => by
    cases d with
    | int i =>
      have h : (intsD r).map (i :: ·) = some ns := h
      cases e : intsD r with
      | none => rw [e] at h; cases h
      | some ms =>
        rw [e] at h
        cases h
        rw [intsD_map e]
        rfl
    | _ => cases h
theorem blsD_map : ∀ {ds : List D} {ns : List Bool}, blsD ds = some ns → ds = ns.map D.bl
  | [], ns, h => by
    cases h
    rfl
  | d :: r, ns, h => by
    cases d with
    | bl i =>
      have h : (blsD r).map (i :: ·) = some ns := h
      cases e : blsD r with
      | none => rw [e] at h; cases h
      | some ms =>
        rw [e] at h
        cases h
        rw [blsD_map e]
        rfl
    | _ => cases h
theorem strsD_map : ∀ {ds : List D} {ns : List Str}, strsD ds = some ns → ds = ns.map D.str
  | [], ns, h => by
    cases h
    rfl
  | d :: r, ns, h => by
    cases d with
    | str i =>
      have h : (strsD r).map (i :: ·) = some ns := h
      cases e : strsD r with
      | none => rw [e] at h; cases h
      | some ms =>
        rw [e] at h
        cases h
        rw [strsD_map e]
        rfl
    | _ => cases h
theorem Reps.ints {F : Fr} {H : Hp} : ∀ {ns : List Int} {vs : List V}, Reps F H (ns.map D.int) vs → vs = ns.map V.int
  | [], _, h => h
  | n :: ns, _, ⟨v, r, e, h1, h2⟩ => by
    rw [e, Reps.ints h2, show v = V.int n from h1]
    rfl
theorem Reps.bls {F : Fr} {H : Hp} : ∀ {ns : List Bool} {vs : List V}, Reps F H (ns.map D.bl) vs → vs = ns.map V.bl
  | [], _, h => h
  | n :: ns, _, ⟨v, r, e, h1, h2⟩ => by
    rw [e, Reps.bls h2, show v = V.bl n from h1]
    rfl
theorem Reps.strs {F : Fr} {H : Hp} : ∀ {ns : List Str} {vs : List V}, Reps F H (ns.map D.str) vs → vs = ns.map V.str
  | [], _, h => h
  | n :: ns, _, ⟨v, r, e, h1, h2⟩ => by
    rw [e, Reps.strs h2, show v = V.str n from h1]
    rfl
/-- a list of ints that is read -/
theorem items_ints {F : Fr} {H : Hp} {d : D} {v : V} {ns : List Int} (s : Sto F H) (h : Rep F H d v) (e : (items F.st d).bind intsD = some ns) : ∃ a, v = .ref a ∧ H a = some (.lst (ns.map V.int)) := by
  cases q : items F.st d with
  | none => rw [q] at e; cases e
  | some ds =>
    rw [q] at e
    obtain ⟨a, vs, e1, e2, e3⟩ := items_rep s h q
    rw [intsD_map e] at e3
    rw [e3.ints] at e2
    exact ⟨a, e1, e2⟩
theorem items_bls {F : Fr} {H : Hp} {d : D} {v : V} {ns : List Bool} (s : Sto F H) (h : Rep F H d v) (e : (items F.st d).bind blsD = some ns) : ∃ a, v = .ref a ∧ H a = some (.lst (ns.map V.bl)) := by
  cases q : items F.st d with
  | none => rw [q] at e; cases e
  | some ds =>
    rw [q] at e
    obtain ⟨a, vs, e1, e2, e3⟩ := items_rep s h q
    rw [blsD_map e] at e3
    rw [e3.bls] at e2
    exact ⟨a, e1, e2⟩
theorem op_ltLI {X : Cx} (hu : X.A.units < cLine) : OpR X (compareOp .Lt) (fun x y H Q => ∃ a b ns ms, x = .ref a ∧ y = .ref b ∧ H a = some (.lst (ns.map V.int)) ∧ H b = some (.lst (ms.map V.int)) ∧ Q (.bl (HT.lexLt ns ms)) H) := by
  intro pins s σ H x y v u Q I rx ry ⟨a, b, ns, ms, ea, eb, ha, hb, q⟩
  subst ea eb
  cases rx
  cases ry
  obtain ⟨its, r1, p1, _⟩ := I.list (SqL.of ha)
  obtain ⟨its2, r2, p2, _⟩ := I.list (SqL.of hb)
  have i1 : IntsAre its ns := Vals.ints r1
  have i2 : IntsAre its2 ms := Vals.ints r2
  have z1 : its.toArray.size = ns.length := by rw [List.size_toArray]; exact i1.length
  have z2 : its2.toArray.size = ms.length := by rw [List.size_toArray]; exact i2.length
  have w1 : ∀ j (h1 : j < its.toArray.size), ∃ t, its.toArray[j] = .int (ns.getD j 0) t := fun j h1 => PyProof.Rows.IntsAre.int_at i1 _ _ (by simp at h1; simp [h1])
  have w2 : ∀ j (h1 : j < its2.toArray.size), ∃ t, its2.toArray[j] = .int (ms.getD j 0) t := fun j h1 => PyProof.Rows.IntsAre.int_at i2 _ _ (by simp at h1; simp [h1])
  refine SeqAt.RcLt.lists (A := X.A) (s := s) (e := fun j => decide (ns.getD j 0 = ms.getD j 0)) (r := fun j => decide (ns.getD j 0 < ms.getD j 0)) p1.isList p2.isList hu (fun j h1 h2 => ?_) (fun j h1 h2 _ => ?_) _ _ _ _ ?_
  · obtain ⟨t, et⟩ := w1 j h1
    obtain ⟨t', et'⟩ := w2 j h2
    rw [et, et']
    have q1 := SeqAt.EqAt.int_int (A := X.A.in1) (s := s) (ns.getD j 0) t (ms.getD j 0) t'
    rw [Bool.beq_eq_decide_eq] at q1
    exact q1
  · obtain ⟨t, et⟩ := w1 j h1
    obtain ⟨t', et'⟩ := w2 j h2
    rw [et, et']
    exact fun _ _ _ _ q => lt_int q
  · rw [z1, z2, firstLt_lex]
    exact ⟨.bl _, H, I, rfl, q⟩

theorem op_ltF {X : Cx} {k : Nat} (hr : Room k X.A) : OpR X (compareOp .Lt) (rV2b ltD) := by
  intro pins s σ H x y v u Q I rx ry ⟨F, d, e, z, hs, rd, re, hz, q⟩
  unfold ltD at hz
  split at hz
  · rename_i i j
    cases hz
    exact op_lt pins s σ H x y v u Q I rx ry ⟨i, j, rd, re, q⟩
  · split at hz
    · rename_i ns ms h1 h2
      cases hz
      obtain ⟨a, ea, ha⟩ := items_ints hs rd h1
      obtain ⟨b, eb, hb⟩ := items_ints hs re h2
      exact op_ltLI hr.units0 pins s σ H x y v u Q I rx ry ⟨a, b, ns, ms, ea, eb, ha, hb, q⟩
    · cases hz
/-! ### in -/
theorem flat_rep {F : Fr} {H : Hp} {d : D} {v : V} (h : flatD d = true) (r : Rep F H d v) : flatV v = true := by
  cases d <;> first | (cases h; done) | (rw [show v = _ from r]; rfl)
theorem eqV_flat {F : Fr} {H : Hp} {d e : D} {v u : V} (h : flatD d = true) (h' : flatD e = true) (r : Rep F H d v) (r' : Rep F H e u) : eqV v u = PyData.eqv (toP d) (toP e) := by
  cases d <;> first | cases h | skip
  all_goals (cases e <;> first | cases h' | skip)
  all_goals (rw [show v = _ from r, show u = _ from r']; simp [eqV, toP, PyData.eqv])
theorem inV_flat {F : Fr} {H : Hp} {e : D} {u : V} (h' : flatD e = true) (r' : Rep F H e u) : ∀ {ds : List D} {vs : List V}, ds.all flatD = true → Reps F H ds vs → (vs.all flatV = true ∧ inV u vs = (toPs ds).any fun z => PyData.eqv z (toP e))
  | [], vs, _, r => by
    rw [show vs = [] from r]
    exact ⟨rfl, by simp [inV, toPs]⟩
  | d :: ds, _, h, ⟨v, r, e1, h1, h2⟩ => by
    rw [List.all_cons, Bool.and_eq_true] at h
    obtain ⟨i1, i2⟩ := inV_flat h' r' h.2 h2
    subst e1
    refine ⟨by rw [List.all_cons, flat_rep h.1 h1, i1]; rfl, ?_⟩
    show (eqV v u || inV u r) = _
    rw [i2, eqV_flat h.1 h' h1 r', toPs, List.any_cons]
theorem RepK.has {F : Fr} {H : Hp} : ∀ {kvs : List (Key × D)} {us : List (Key × V)} (_ : RepK F H kvs us) (k : Key), dHas kvs k = (valV us k).isSome
  | [], us, h, k => by
    have h : us = [] := h
    subst h
    rfl
  | p :: ps, us, ⟨v, r, e, _, h⟩, k => by
    subst e
    have ih := h.has k
    unfold dHas at ih ⊢
    rw [List.any_cons, ih]
    by_cases q : p.1 = k
    · rw [valV_pos (p := (p.1, v)) q]
      simp [q]
    · rw [valV_neg (p := (p.1, v)) q]
      simp [q]
theorem dicAt_rep {F : Fr} {H : Hp} {b : D} {y : V} {kvs : List (Key × D)} (s : Sto F H) (r : Rep F H b y) (h : dicAt F.st b = some kvs) : ∃ a us, y = .ref a ∧ H a = some (.dK us) ∧ RepK F H kvs us := by
  unfold dicAt at h
  split at h
  · rename_i k
    split at h
    · rename_i kvs' hk
      cases h
      obtain ⟨e, _⟩ := r
      obtain ⟨us, ha, rs⟩ := s.ce k _ hk
      exact ⟨_, us, e, ha, rs⟩
    · cases h
  · cases h
theorem op_inF {X : Cx} {k : Nat} (hr : Room k X.A) : OpR X (compareOp .In) (rV2b inD) ∧ OpR X (compareOp .NotIn) (rV2b fun st a b => (inD st a b).map (!·)) := by
  have key : ∀ {F : Fr} {H : Hp} {d e : D} {x y : V} {z : Bool}, Sto F H → Rep F H d x → Rep F H e y → inD F.st d e = some z →
      (∃ i j, x = .str i ∧ y = .str j ∧ z = !(Builtin.Str.occurrences j i 0 j.length 1).isEmpty) ∨
      (∃ p xs, y = .ref p ∧ (SqL X.K H p xs ∨ SqT X.K H p xs) ∧ flatV x = true ∧ xs.all flatV = true ∧ z = inV x xs) ∨
      (∃ d ds, Dp X.K H x d ∧ Dp X.K H y (.list ds) ∧ SeqAt.shaped d = true ∧ SeqAt.shaped (.list ds) = true ∧ z = ds.any fun z => PyData.eqv z d) ∨
      ∃ a us k, y = .ref a ∧ H a = some (.dK us) ∧ x = kV k ∧ z = (valV us k).isSome := by
    intro F H d e x y z hs rd re hz
    unfold inD at hz
    split at hz
    · rename_i kvs hkv
      obtain ⟨a, us, e1, e2, e3⟩ := dicAt_rep hs re hkv
      unfold keyD at hz
      split at hz
      · cases hz
        rename_i z0
        exact .inr (.inr (.inr ⟨a, us, .inr z0, e1, e2, rd, e3.has _⟩))
      · cases hz
    split at hz
    · split at hz
      · cases hz
        exact .inl ⟨_, _, rd, re, rfl⟩
      · cases hz
    · split at hz
      · rename_i hf
        cases hz
        simp only [Bool.and_eq_true] at hf
        obtain ⟨a, vs, ea, _, ha, rs⟩ := re
        obtain ⟨i1, i2⟩ := inV_flat hf.1 rd hf.2 rs
        exact .inr (.inl ⟨a, vs, ea, .inr (SqT.of ha), flat_rep hf.1 rd, i1, i2.symm⟩)
      · cases hz
    · split at hz
      · rename_i a b ha hb
        split at hz
        · rename_i hf
          cases hz
          simp only [Bool.and_eq_true] at hf
          have q := (snap_dp (K := X.K) hs re hb).1
          rw [toP] at q
          exact .inr (.inr (.inl ⟨_, _, (snap_dp hs rd ha).1, q, hf.1, hf.2, rfl⟩))
        · cases hz
      · cases hz
  refine ⟨fun pins s σ H x y v u Q I rx ry ⟨F, d, e, z, hs, rd, re, hz, q⟩ => ?_, fun pins s σ H x y v u Q I rx ry ⟨F, d, e, z, hs, rd, re, hz, q⟩ => ?_⟩
  · rcases key hs rd re hz with ⟨i, j, h1, h2, rfl⟩ | ⟨p, xs, h1, h2, h3, h4, rfl⟩ | ⟨d, ds, h1, h2, h3, h4, rfl⟩ | ⟨a, us, kk, h1, h2, h3, rfl⟩
    · exact op_in_str pins s σ H x y v u Q I rx ry ⟨i, j, h1, h2, q⟩
    · exact op_in_seq pins s σ H x y v u Q I rx ry ⟨p, xs, h1, h2, h3, h4, q⟩
    · exact op_inD (room64 hr) pins s σ H x y v u Q I rx ry ⟨d, ds, h1, h2, h3, h4, q⟩
    · subst h1 h3
      cases (show u = Value.ref a from ry)
      exact d_in (Nat.lt_of_le_of_lt (by omega) (room64 hr)) I (DGet.k h2) rx fun s3 I3 => ⟨.bl _, H, I3, rfl, q⟩
  · replace hz : (inD F.st d e).map (!·) = some z := hz
    cases hq : inD F.st d e with
    | none => rw [hq] at hz; cases hz
    | some r =>
      rw [hq] at hz
      cases hz
      rcases key hs rd re hq with ⟨i, j, h1, h2, rfl⟩ | ⟨p, xs, h1, h2, h3, h4, rfl⟩ | ⟨d, ds, h1, h2, h3, h4, rfl⟩ | ⟨a, us, kk, h1, h2, h3, rfl⟩
      · exact op_notin_str pins s σ H x y v u Q I rx ry ⟨i, j, h1, h2, q⟩
      · exact op_notIn_seq pins s σ H x y v u Q I rx ry ⟨p, xs, h1, h2, h3, h4, q⟩
      · exact op_notInD (room64 hr) pins s σ H x y v u Q I rx ry ⟨d, ds, h1, h2, h3, h4, q⟩
      · subst h1 h3
        cases (show u = Value.ref a from ry)
        exact d_notIn (Nat.lt_of_le_of_lt (by omega) (room64 hr)) I (DGet.k h2) rx fun s3 I3 => ⟨.bl _, H, I3, rfl, q⟩
/-! ### is -/
theorem rep_non {F : Fr} {H : Hp} {d : D} {v : V} (r : Rep F H d v) : decide (v = .non) = nonB d := by
  cases d with
  | lst _ => obtain ⟨a, vs, e, _⟩ := r; rw [e]; rfl
  | tup _ => obtain ⟨a, vs, e, _⟩ := r; rw [e]; rfl
  | dic _ => obtain ⟨a, vs, e, _⟩ := r; rw [e]; rfl
  | scr _ => obtain ⟨a, o, e, _⟩ := r; rw [e]; rfl
  | cel _ => obtain ⟨e, _⟩ := r; rw [e]; rfl
  | exv _ _ => obtain ⟨_, a, dx, u, e, _⟩ := r; rw [e]; rfl
  | clo _ _ => obtain ⟨f, c', q, ps, b, sc, cl, pm, ctv, e, _⟩ := r; rw [e]; rfl
  | _ => rw [show v = _ from r]; rfl
theorem rep_blB {F : Fr} {H : Hp} {d : D} {v : V} (b : Bool) (r : Rep F H d v) : decide (v = .bl b) = blB b d := by
  cases d with
  | lst _ => obtain ⟨a, vs, e, _⟩ := r; rw [e]; rfl
  | tup _ => obtain ⟨a, vs, e, _⟩ := r; rw [e]; rfl
  | dic _ => obtain ⟨a, vs, e, _⟩ := r; rw [e]; rfl
  | scr _ => obtain ⟨a, o, e, _⟩ := r; rw [e]; rfl
  | cel _ => obtain ⟨e, _⟩ := r; rw [e]; rfl
  | exv _ _ => obtain ⟨_, a, dx, u, e, _⟩ := r; rw [e]; rfl
  | clo _ _ => obtain ⟨f, c', q, ps, b, sc, cl, pm, ctv, e, _⟩ := r; rw [e]; rfl
  | bl a => rw [show v = _ from r]; simp [blB]
  | _ => rw [show v = _ from r]; rfl
theorem val_bool {x : V} {v : Value} (b : Bool) (r : RelV x v) : plainIs v (.bool b) = true ∧ (v == Value.bool b) = decide (x = .bl b) := by
  cases x with
  | non => cases r; exact ⟨rfl, rfl⟩
  | bl a => cases r; refine ⟨rfl, ?_⟩; cases a <;> cases b <;> rfl
  | int _ => obtain ⟨t, rfl⟩ := r; exact ⟨rfl, rfl⟩
  | str _ => obtain ⟨t, rfl⟩ := r; exact ⟨rfl, rfl⟩
  | byt _ => obtain ⟨t, rfl⟩ := r; exact ⟨rfl, rfl⟩
  | flt _ => obtain ⟨t, rfl⟩ := r; exact ⟨rfl, rfl⟩
  | ref _ => cases r; exact ⟨rfl, rfl⟩
  | ty _ => cases r; exact ⟨rfl, rfl⟩
theorem op_isF {X : Cx} : OpR X (compareOp .Is) (rV2b fun _ a b => isD a b) ∧ OpR X (compareOp .IsNot) (rV2b fun _ a b => (isD a b).map (!·)) := by
  refine ⟨fun pins s σ H x y v u Q I rx ry ⟨F, d, e, z, hs, rd, re, hz, q⟩ => ?_, fun pins s σ H x y v u Q I rx ry ⟨F, d, e, z, hs, rd, re, hz, q⟩ => ?_⟩
  · replace hz : isD d e = some z := hz
    cases e with
    | non =>
      cases hz
      rw [show y = _ from re] at ry
      exact op_isN pins s σ H x .non v u Q I rx ry ⟨rfl, by rw [rep_non rd]; exact q⟩
    | bl b =>
      cases hz
      rw [show y = _ from re] at ry
      cases ry
      obtain ⟨p1, p2⟩ := val_bool b rx
      refine wpAny_is_plain p1 ?_
      rw [p2, rep_blB b rd]
      exact ⟨.bl _, H, I, rfl, q⟩
    | _ => cases hz
  · replace hz : (isD d e).map (!·) = some z := hz
    cases e with
    | non =>
      cases hz
      rw [show y = _ from re] at ry
      exact op_notN pins s σ H x .non v u Q I rx ry ⟨rfl, by rw [rep_non rd]; exact q⟩
    | bl b =>
      cases hz
      rw [show y = _ from re] at ry
      cases ry
      obtain ⟨p1, p2⟩ := val_bool b rx
      refine wpAny_isNot_plain p1 ?_
      rw [p2, rep_blB b rd]
      exact ⟨.bl _, H, I, rfl, q⟩
    | _ => cases hz
/-! ### every comparison -/
theorem op_cmp {X : Cx} {k : Nat} (hr : Room k X.A) {op : Co} {o : CmpOp} (h : okCo op o = true) : OpR X (compareOp o) (rV2b fun st a b => cmpD st op a b) := by
  have two : ∀ {f : Int → Int → Bool}, OpR X (compareOp o) (rI0 fun i j => .bl (f i j)) → (∀ st a b, cmpD st op a b = match a, b with | .int i, .int j => some (f i j) | _, _ => none) → OpR X (compareOp o) (rV2b fun st a b => cmpD st op a b) := by
    intro f hf hc pins s σ H x y v u Q I rx ry ⟨F, d, e, z, hs, rd, re, hz, q⟩
    replace hz : cmpD F.st op d e = some z := hz
    rw [hc] at hz
    split at hz
    · cases hz
      exact hf pins s σ H x y v u Q I rx ry ⟨_, _, rd, re, q⟩
    · cases hz
  cases op <;> cases o <;> first | (cases h; done) | skip
  · exact op_ltF hr
  · exact two op_le fun _ a b => by cases a <;> cases b <;> rfl
  · exact two op_gt fun _ a b => by cases a <;> cases b <;> rfl
  · exact two op_ge fun _ a b => by cases a <;> cases b <;> rfl
  · exact op_eqF hr
  · exact op_neF hr
  · exact (op_inF hr).1
  · exact (op_inF hr).2
  · exact op_isF.1
  · exact op_isF.2
section
variable {C : Nat → Addr} {W : WX} {c : Cxt}
theorem evT_cmp {a b e : Ex} {f : Store → D → D → Option Bool} (he : ∀ ρ st, ev c e ρ st = (ev c a ρ st).bind fun x st => (ev c b ρ st).bind fun y st => ofO ((f st x y).map .bl) st) {σ : L2.St} {H : Hp} {Q : VK} (h : evT C W c e σ H Q) :
    tOp (rV2b f) (evT C W c a) (evT C W c b) σ H Q := by
  obtain ⟨F, ρ, hs, hl, h⟩ := h
  rw [he] at h
  refine MP.two hs hl h fun F2 H2 x y vx vy s2 r1 r2 e2 h2 => ?_
  cases hz : f F2.st x y with
  | none =>
    rw [hz] at h2
    exact h2.elim
  | some z =>
    rw [hz] at h2
    exact ⟨F2, x, y, z, s2, r1, r2, hz, h2.val s2 rfl⟩
theorem pe_cmp {X : Cx} {k : Nat} (hr : Room k X.A) {a b : Ex} {x y : Expr} {op : Co} {o : CmpOp} {p : Pos} (h : okCo op o = true) (hm : behindInMarks o y = false) (ha : PE X x (evT C W c a)) (hb : PE X y (evT C W c b)) : PE X (.Compare x [o] [y] p) (evT C W c (.cmp op a b)) :=
  imp_e (pe_cmpR (op_cmp hr h) ha hb hm) fun _ _ _ w => evT_cmp (e := .cmp op a b) (f := fun st x y => cmpD st op x y) (fun _ _ => by rw [ev]) w
theorem evT_chn {a b d : Ex} {o p : Co} {σ : L2.St} {H : Hp} {Q : VK} (h : evT C W c (.chn o p a b d) σ H Q) :
    tChain (rV2b fun st a b => cmpD st o a b) (rV2b fun st a b => cmpD st p a b) (evT C W c a) (evT C W c b) (evT C W c d) σ H Q := by
  obtain ⟨F, ρ, hs, hl, h⟩ := h
  rw [ev] at h
  refine ⟨F, ρ, hs, hl, Aft.mono (Aft.bind h) fun F1 H1 x vx e1 s1 r1 h1 => ?_⟩
  refine ⟨F1, ρ, s1, hl.ext e1, Aft.mono (Aft.bind h1) fun F2 H2 y vy e2 s2 r2 h2 => ?_⟩
  cases hz : cmpD F2.st o x y with
  | none =>
    rw [hz] at h2
    exact h2.elim
  | some z =>
    rw [hz] at h2
    refine ⟨F2, x, y, z, s2, r1.ext e2, r2, hz, z, rfl, ?_⟩
    cases z with
    | false =>
      rw [if_neg Bool.false_ne_true]
      exact h2.val s2 rfl
    | true =>
      rw [if_pos rfl]
      refine ⟨F2, ρ, s2, (hl.ext e1).ext e2, Aft.mono (Aft.bind h2) fun F3 H3 w vw e3 s3 r3 h3 => ?_⟩
      cases hq : cmpD F3.st p y w with
      | none =>
        rw [hq] at h3
        exact h3.elim
      | some q =>
        rw [hq] at h3
        exact ⟨F3, y, w, q, s3, r2.ext e3, r3, hq, h3.val s3 rfl⟩
theorem pe_chn {X : Cx} {k : Nat} (hr : Room k X.A) {a b d : Ex} {x y z : Expr} {o p : Co} {o' p' : CmpOp} {pos : Pos} (h : okCo o o' = true) (h' : okCo p p' = true) (hm : lastMarks [o', p'] [y, z] = false) (ha : PE X x (evT C W c a)) (hb : PE X y (evT C W c b)) (hd : PE X z (evT C W c d)) :
    PE X (.Compare x [o', p'] [y, z] pos) (evT C W c (.chn o p a b d)) :=
  imp_e (pe_chain (op_cmp hr h) (op_cmp hr h') ha hb hd hm) fun _ _ _ w => evT_chn w
end
end MP
end
section
set_option maxRecDepth 100000
set_option maxHeartbeats 4000000
/-! MPSnd5: and, or, not, if; displays; arguments. -/
namespace MP
open PySem L2
variable [Glo]
section
variable {C : Nat → Addr} {W : WX} {c : Cxt} {X : Cx}
def Wσ (W : WX) (σ : L2.St) : Value → Option Addr → Hp → Prop := fun cl d H' => W cl d σ H'

/-- a value that must be a bool, then a step -/
theorem bindB {α β : Type} {Rel : Fr → Hp → α → β → Prop} {We : Value → Option Addr → Hp → Prop} {F : Fr} {H : Hp} {r : R D} {g : D → Store → R α} {Q : Fr → Hp → α → β → Prop} (hg : ∀ d st, tb d = none → g d st = .bad)
    (h : Aft Rel C We F H (r.bind g) Q) : Aft Eqr C We F H (r.bind fun d st => ofO (tb d) st) fun F1 H1 k _ => Aft Rel C We F1 H1 (g (.bl k) F1.st) Q := by
  cases r with
  | ok d st =>
    rw [R.bind_ok] at h ⊢
    cases hd : tb d with
    | none =>
      rw [hg d st hd] at h
      exact h.elim
    | some k =>
      have e : d = .bl k := by
        cases d <;> cases hd
        rfl
      subst e
      intro F' H' b e x s q
      subst e
      exact Aft.later x h
  | exc k d st => exact h
  | bad => exact h
theorem bindV {α β : Type} {Rel : Fr → Hp → α → β → Prop} {We : Value → Option Addr → Hp → Prop} {F : Fr} {H : Hp} {r : R D} {g : D → Store → R α} {Q : Fr → Hp → α → β → Prop} (hg : ∀ d st, tb d = none → g d st = .bad)
    (h : Aft Rel C We F H (r.bind g) Q) : Aft Rep C We F H r fun F1 H1 d v => ∃ k, d = .bl k ∧ v = .bl k ∧ Aft Rel C We F1 H1 (g (.bl k) F1.st) Q := by
  refine Aft.mono (Aft.bind h) fun F' H' d v _ _ rp q => ?_
  cases hd : tb d with
  | none =>
    rw [hg _ _ hd] at q
    exact q.elim
  | some k =>
    have e : d = .bl k := by
      cases d <;> cases hd
      rfl
    subst e
    exact ⟨k, rfl, rp, q⟩
theorem bind_assoc {α β γ : Type} (r : R α) (f : α → Store → R β) (g : β → Store → R γ) : (r.bind f).bind g = r.bind fun a st => (f a st).bind g := by
  cases r <;> rfl
theorem Aft.eq_mono {We : Value → Option Addr → Hp → Prop} {F : Fr} {H : Hp} {r : R Bool} {Q : Fr → Hp → Bool → Bool → Prop} {Q' : Bool → Hp → Prop} (h : Aft Eqr C We F H r Q) (k : ∀ F' H' b, Ext F H F' H' → Sto F' H' → Q F' H' b b → Q' b H') : Aft Eqr C We F H r fun _ H' _ b => Q' b H' :=
  h.mono fun F' H' a b x s e q => by
    have e : a = b := e
    subst e
    exact k F' H' a x s q
/-- a bool, as a test -/
theorem tt_of {a : Ex} {x : Expr} (h : PE X x (evT C W c a)) (hx : ∀ whole, isTrue x X.env whole = (do let v ← whole; standAt x.pos; holding [v] (truthy v))) : PT X x (evTT C W c a) := by
  refine imp_t (pt_val h hx) fun σ H Q ⟨F, ρ, hs, hl, w⟩ => ?_
  refine ⟨F, ρ, hs, hl, Aft.mono (bindV (fun d st e => by rw [e]; rfl) w) fun F1 H1 d v _ s1 _ ⟨k, e1, e2, q⟩ => ⟨k, e2, ?_⟩⟩
  exact q F1 H1 k rfl (Ext.refl F1 H1) s1 rfl
theorem tt_cmp {a : Ex} {x y : Expr} {o : CmpOp} {p : Pos} (h : PE X (.Compare x [o] [y] p) (evT C W c a)) (h1 : PT X (.Compare x [o] [y] p) (fun σ H Q => evT C W c a σ H fun v H1 => ∃ k, v = .bl k ∧ Q k H1)) : PT X (.Compare x [o] [y] p) (evTT C W c a) := by
  refine imp_t h1 fun σ H Q ⟨F, ρ, hs, hl, w⟩ => ?_
  refine ⟨F, ρ, hs, hl, Aft.mono (bindV (fun d st e => by rw [e]; rfl) w) fun F1 H1 d v _ s1 _ ⟨k, e1, e2, q⟩ => ⟨k, e2, ?_⟩⟩
  exact q F1 H1 k rfl (Ext.refl F1 H1) s1 rfl
/-- a test's reading, from a value's -/
theorem tt_val {a : Ex} {σ : L2.St} {H : Hp} {Q : Bool → Hp → Prop} (h : evTT C W c a σ H Q) : evT C W c a σ H fun v H1 => ∃ k, v = .bl k ∧ Q k H1 := by
  obtain ⟨F, ρ, hs, hl, w⟩ := h
  refine ⟨F, ρ, hs, hl, Aft.mono (bindV (fun d st e => by rw [e]; rfl) w) fun F1 H1 d v _ s1 _ ⟨k, e1, e2, q⟩ => ⟨k, e2, ?_⟩⟩
  exact q F1 H1 k rfl (Ext.refl F1 H1) s1 rfl

theorem ev_and {a b : Ex} {ρ : Sl} {st : Store} : ev c (.and a b) ρ st = (ev c a ρ st).bind fun x st => match x with
    | .bl true => ev c b ρ st
    | .bl false => .ok (.bl false) st
    | _ => .bad := by
  (rw [ev]) <;> rfl
theorem ev_or {a b : Ex} {ρ : Sl} {st : Store} : ev c (.or a b) ρ st = (ev c a ρ st).bind fun x st => match x with
    | .bl true => .ok (.bl true) st
    | .bl false => ev c b ρ st
    | _ => .bad := by
  (rw [ev]) <;> rfl
theorem tAnd_of {a b : Ex} {σ : L2.St} {H : Hp} {Q : Bool → Hp → Prop} (h : evTT C W c (.and a b) σ H Q) : tAnd (evTT C W c a) (evTT C W c b) σ H Q := by
  obtain ⟨F, ρ, hs, hl, w⟩ := h
  rw [ev_and, bind_assoc] at w
  refine ⟨F, ρ, hs, hl, (bindB (fun d st e => ?_) w).eq_mono fun F1 H1 k x s q => ?_⟩
  · cases d <;> first | (cases e; done) | rfl
  · cases k with
    | false =>
      rw [if_neg Bool.false_ne_true]
      exact q F1 H1 false rfl (Ext.refl F1 H1) s rfl
    | true =>
      rw [if_pos rfl]
      exact ⟨F1, ρ, s, hl.ext x, q⟩
theorem tOr_of {a b : Ex} {σ : L2.St} {H : Hp} {Q : Bool → Hp → Prop} (h : evTT C W c (.or a b) σ H Q) : tOr (evTT C W c a) (evTT C W c b) σ H Q := by
  obtain ⟨F, ρ, hs, hl, w⟩ := h
  rw [ev_or, bind_assoc] at w
  refine ⟨F, ρ, hs, hl, (bindB (fun d st e => ?_) w).eq_mono fun F1 H1 k x s q => ?_⟩
  · cases d <;> first | (cases e; done) | rfl
  · cases k with
    | true =>
      rw [if_pos rfl]
      exact q F1 H1 true rfl (Ext.refl F1 H1) s rfl
    | false =>
      rw [if_neg Bool.false_ne_true]
      exact ⟨F1, ρ, s, hl.ext x, q⟩
theorem tAndV_of {a b : Ex} {σ : L2.St} {H : Hp} {Q : VK} (h : evT C W c (.and a b) σ H Q) : tAndV (evT C W c a) (evT C W c b) σ H Q := by
  obtain ⟨F, ρ, hs, hl, w⟩ := h
  rw [ev_and] at w
  refine ⟨F, ρ, hs, hl, (bindV (fun d st e => ?_) w).mono fun F1 H1 d v x s _ ⟨k, e1, e2, q⟩ => ⟨k, e2, ?_⟩⟩
  · cases d <;> first | (cases e; done) | rfl
  · cases k with
    | false =>
      rw [if_neg Bool.false_ne_true]
      exact q.val s rfl
    | true =>
      rw [if_pos rfl]
      exact ⟨F1, ρ, s, hl.ext x, q⟩
theorem tOrV_of {a b : Ex} {σ : L2.St} {H : Hp} {Q : VK} (h : evT C W c (.or a b) σ H Q) : tOrV (evT C W c a) (evT C W c b) σ H Q := by
  obtain ⟨F, ρ, hs, hl, w⟩ := h
  rw [ev_or] at w
  refine ⟨F, ρ, hs, hl, (bindV (fun d st e => ?_) w).mono fun F1 H1 d v x s _ ⟨k, e1, e2, q⟩ => ⟨k, e2, ?_⟩⟩
  · cases d <;> first | (cases e; done) | rfl
  · cases k with
    | true =>
      rw [if_pos rfl]
      exact q.val s rfl
    | false =>
      rw [if_neg Bool.false_ne_true]
      exact ⟨F1, ρ, s, hl.ext x, q⟩
theorem ev_not {a : Ex} {ρ : Sl} {st : Store} : ev c (.not a) ρ st = (ev c a ρ st).bind fun x st => match x with
    | .bl k => .ok (.bl (!k)) st
    | _ => .bad := by
  (rw [ev]) <;> rfl
theorem tNot_of {a : Ex} {σ : L2.St} {H : Hp} {Q : Bool → Hp → Prop} (h : evTT C W c (.not a) σ H Q) : tNot (evTT C W c a) σ H Q := by
  obtain ⟨F, ρ, hs, hl, w⟩ := h
  rw [ev_not, bind_assoc] at w
  refine ⟨F, ρ, hs, hl, (bindB (fun d st e => ?_) w).eq_mono fun F1 H1 k x s q => ?_⟩
  · cases d <;> first | (cases e; done) | rfl
  · exact q F1 H1 (!k) rfl (Ext.refl F1 H1) s rfl
theorem tNotV_of {a : Ex} {σ : L2.St} {H : Hp} {Q : VK} (h : evT C W c (.not a) σ H Q) : tNotV (evT C W c a) σ H Q := by
  obtain ⟨F, ρ, hs, hl, w⟩ := h
  rw [ev_not] at w
  refine ⟨F, ρ, hs, hl, (bindV (fun d st e => ?_) w).mono fun F1 H1 d v x s _ ⟨k, e1, e2, q⟩ => ⟨k, e2, q.val s rfl⟩⟩
  cases d <;> first | (cases e; done) | rfl
theorem tIf_of {t a b : Ex} {σ : L2.St} {H : Hp} {Q : VK} (h : evT C W c (.ife t a b) σ H Q) : tIf (evTT C W c t) (evT C W c a) (evT C W c b) σ H Q := by
  obtain ⟨F, ρ, hs, hl, w⟩ := h
  rw [ev] at w
  refine ⟨F, ρ, hs, hl, (bindB (fun d st e => ?_) w).eq_mono fun F1 H1 k x s q => ?_⟩
  · cases d <;> first | (cases e; done) | rfl
  · cases k with
    | true =>
      rw [if_pos rfl]
      exact ⟨F1, ρ, s, hl.ext x, q⟩
    | false =>
      rw [if_neg Bool.false_ne_true]
      exact ⟨F1, ρ, s, hl.ext x, q⟩
/-! ### arguments, displays -/
theorem pa_nilF : PA X [] (evsT C W c .nil) := by
  refine imp_a pa_nil fun σ H Q ⟨F, ρ, hs, hl, w⟩ => ?_
  rw [evs] at w
  exact w.ok_now hs rfl
theorem evsT_cons {e : Ex} {es : Exs} {σ : L2.St} {H : Hp} {Q : List V → Hp → Prop} (h : evsT C W c (.cons e es) σ H Q) : tCons (evT C W c e) (evsT C W c es) σ H Q := by
  obtain ⟨F, ρ, hs, hl, w⟩ := h
  rw [evs] at w
  refine ⟨F, ρ, hs, hl, (Aft.bind w).mono fun F1 H1 d v x1 s1 r1 q1 => ?_⟩
  refine ⟨F1, ρ, s1, hl.ext x1, (Aft.bind q1).mono fun F2 H2 ds vs x2 s2 r2 q2 => ?_⟩
  exact q2.ok_now s2 ⟨v, vs, rfl, r1.ext x2, r2⟩
end
end MP
end
section
set_option maxRecDepth 100000
set_option maxHeartbeats 4000000
/-! MPSnd6: items, slices. -/
namespace MP
open PySem L2
variable [Glo]
section
variable {C : Nat → Addr} {W : WX} {c : Cxt} {X : Cx}
theorem atI_rep {F : Fr} {H : Hp} {ds : List D} {vs : List V} {i : Int} {z : D} (r : Reps F H ds vs) (h : atI ds i = some z) : ∃ v, atI vs i = some v ∧ Rep F H z v := by
  unfold atI at h ⊢
  rw [← r.length]
  cases e : ixN ds.length i with
  | none => rw [e] at h; cases h
  | some j =>
    rw [e] at h
    exact r.get h
theorem atI_map {α β : Type} (f : α → β) (xs : List α) (i : Int) : atI (xs.map f) i = (atI xs i).map f := by
  unfold atI
  rw [List.length_map]
  cases ixN xs.length i with
  | none => rfl
  | some j => simp
theorem ix_F : IxR X (rV2 subD) := by
  intro value slice pins s σ H x y v u Q I rx ry ⟨F, d, e, z, hs, rd, re, hz, q⟩ hsub
  have q0 : ∀ v, Rep F H z v → Q v H := fun v r => q H v (Ext.refl F H) hs r
  unfold subD at hz
  split at hz
  · rename_i xs i
    obtain ⟨a, vs, ea, _, ha, rs⟩ := rd
    obtain ⟨w, hw, rw'⟩ := atI_rep rs hz
    exact ix_tup value slice pins s σ H x y v u Q I rx ry ⟨a, vs, i, w, ea, re, SqT.of ha, hw, q0 w rw'⟩ hsub
  · rename_i t i
    split at hz
    · rename_i hl
      rw [line_eq] at hl
      cases hc : atI t.cps.toList i with
      | none => rw [hc] at hz; cases hz
      | some k =>
        rw [hc] at hz
        cases hz
        exact ix_str value slice pins s σ H x y v u Q I rx ry ⟨t, i, k, rd, re, hl, hc, q0 _ rfl⟩ hsub
    · cases hz
  · rename_i ns i
    obtain ⟨a, o, ea, _, ha⟩ := rd
    cases hc : atI ns i with
    | none => rw [hc] at hz; cases hz
    | some k =>
      rw [hc] at hz
      cases hz
      exact ix_list value slice pins s σ H x y v u Q I rx ry ⟨a, ns.map V.int, i, .int k, ea, re, .inl (.inr ⟨o, ha⟩), by rw [atI_map, hc]; rfl, q0 _ rfl⟩ hsub
  · rename_i i _ _ _
    cases hi : items F.st d with
    | none => rw [hi] at hz; cases hz
    | some ds =>
      rw [hi] at hz
      obtain ⟨a, vs, ea, ha, rs⟩ := items_rep hs rd hi
      obtain ⟨w, hw, rw'⟩ := atI_rep rs (show atI ds i = some z from hz)
      exact ix_list value slice pins s σ H x y v u Q I rx ry ⟨a, vs, i, w, ea, re, SqL.of ha, hw, q0 w rw'⟩ hsub
  · cases hz
theorem plainIx_of {y : Expr} (h : isSlice y = false) : PlainIx y := by
  intro o i
  cases y <;> first | rfl | cases h
theorem pe_subF {a b : Ex} {x y : Expr} {p : Pos} (h : isSlice y = false) (ha : PE X x (evT C W c a)) (hb : PE X y (evT C W c b)) : PE X (.Subscript x y p) (evT C W c (.sub a b)) :=
  imp_e (pe_ix ix_F ha hb (plainIx_of h)) fun _ _ _ w => evT_op (e := .sub a b) (f := subD) (fun _ _ => by rw [ev]) w
/-! ### slices -/
def evoT (C : Nat → Addr) (W : WX) (c : Cxt) (o : Ox) : TO := fun σ H Q => ∃ F ρ, Sto F H ∧ Slo F H ρ σ ∧ Aft Eqr C (fun cl d H' => W cl d σ H') F H (evo c o ρ F.st) fun _ H' _ b => Q b H'
theorem po_non : PO X none (evoT C W c .non) := by
  refine ⟨fun pins s σ H Q I ⟨F, ρ, hs, hl, w⟩ => po_none.run pins s σ H Q I ?_⟩
  rw [evo] at w
  exact w.ok_now hs rfl
theorem po_som {e : Ex} {x : Expr} (h : PE X x (evT C W c e)) : PO X (some x) (evoT C W c (.som e)) := by
  refine ⟨fun pins s σ H Q I ⟨F, ρ, hs, hl, w⟩ => (po_some h).run pins s σ H Q I ?_⟩
  rw [evo] at w
  refine ⟨F, ρ, hs, hl, (Aft.bind w).mono fun F1 H1 d v x1 s1 r1 q1 => ?_⟩
  cases d with
  | int i => exact ⟨i, r1, q1 F1 H1 (some i) rfl (Ext.refl F1 H1) s1 rfl⟩
  | _ => exact q1.elim
def rSlF : V → Option Int → Option Int → Hp → VK → Prop := fun x l h H Q => ∃ F d z, Sto F H ∧ Rep F H d x ∧ slcD F.st d l h = some z ∧ ∀ H' v, Ext F H F H' → Sto F H' → Rep F H' z v → Q v H'
theorem Reps.take {F : Fr} {H : Hp} : ∀ {ds : List D} {vs : List V} (n : Nat), Reps F H ds vs → Reps F H (ds.take n) (vs.take n)
  | [], vs, n, h => by
    rw [show vs = [] from h]
    simp only [List.take_nil]
    rfl
  | d :: ds, _, 0, _ => rfl
  | d :: ds, _, n + 1, ⟨v, r, e, h1, h2⟩ => by
    subst e
    exact ⟨v, r.take n, rfl, h1, h2.take n⟩
theorem Reps.drop {F : Fr} {H : Hp} : ∀ {ds : List D} {vs : List V} (n : Nat), Reps F H ds vs → Reps F H (ds.drop n) (vs.drop n)
  | [], vs, n, h => by
    rw [show vs = [] from h]
    simp only [List.drop_nil]
    rfl
  | d :: ds, _, 0, h => h
  | d :: ds, _, n + 1, ⟨v, r, e, h1, h2⟩ => by
    subst e
    exact h2.drop n
theorem Reps.cut {F : Fr} {H : Hp} {ds : List D} {vs : List V} (l h : Option Int) (r : Reps F H ds vs) : Reps F H (cutL ds l h) (cutV vs l h) := by
  unfold cutL cutV
  rw [r.length]
  exact (r.drop _).take _
theorem cutL_map {α β : Type} (f : α → β) (xs : List α) (l h : Option Int) : cutL (xs.map f) l h = (cutL xs l h).map f := by
  unfold cutL
  rw [List.length_map, List.map_take, List.map_drop]
theorem reps_ints {F : Fr} {H : Hp} : ∀ ns : List Int, Reps F H (ns.map D.int) (ns.map V.int)
  | [] => rfl
  | n :: ns => ⟨V.int n, _, rfl, rfl, reps_ints ns⟩
theorem sl_F : SlR X rSlF := by
  intro pins s σ H x v vl vu lo hi sl Q I rx hsl pl pu ⟨F, d, z, hs, rd, hz, q⟩
  have q0 : ∀ v, Rep F H z v → Q v H := fun v r => q H v (Ext.refl F H) hs r
  unfold slcD at hz
  split at hz
  · rename_i ns
    cases hz
    obtain ⟨a, o, ea, _, ha⟩ := rd
    refine sl_list pins s σ H x v vl vu lo hi sl Q I rx hsl pl pu ⟨a, ns.map V.int, ea, .inl (.inr ⟨o, ha⟩), fun p hp => ?_⟩
    refine q _ _ (Ext.fresh F _ hp) (hs.fresh _ hp) (Rep.newL hs hp ?_)
    have e : cutV (ns.map V.int) lo hi = (cutL ns lo hi).map V.int := cutL_map V.int ns lo hi
    rw [e]
    exact reps_ints _
  · rename_i xs
    obtain ⟨a, vs, ea, _, ha, rs⟩ := rd
    split at hz
    · cases hz
    · rename_i hn
      cases hz
      rw [rs.length] at hn
      exact sl_tup pins s σ H x v vl vu lo hi sl Q I rx hsl pl pu ⟨a, vs, ea, SqT.of ha, hn, fun p hp => q _ _ (Ext.fresh F _ hp) (hs.fresh _ hp) (Rep.newT hs hp (rs.cut lo hi))⟩
  · rename_i t
    split at hz
    · rename_i hl
      cases hz
      rw [line_eq] at hl
      exact sl_str pins s σ H x v vl vu lo hi sl Q I rx hsl pl pu ⟨t, rd, hl, q0 _ rfl⟩
    · cases hz
  · cases hi' : items F.st d with
    | none => rw [hi'] at hz; cases hz
    | some ds =>
      rw [hi'] at hz
      cases hz
      obtain ⟨a, vs, ea, ha, rs⟩ := items_rep hs rd hi'
      exact sl_list pins s σ H x v vl vu lo hi sl Q I rx hsl pl pu ⟨a, vs, ea, SqL.of ha, fun p hp => q _ _ (Ext.fresh F _ hp) (hs.fresh _ hp) (Rep.newL hs hp (rs.cut lo hi))⟩
theorem pe_slcF {a : Ex} {lo hi : Ox} {x : Expr} {l h : Option Expr} {q p : Pos} (ha : PE X x (evT C W c a)) (hl : PO X l (evoT C W c lo)) (hh : PO X h (evoT C W c hi)) : PE X (.Subscript x (.Slice l h none q) p) (evT C W c (.slc a lo hi)) := by
  refine imp_e (pe_slice sl_F ha hl hh) fun σ H Q ⟨F, ρ, hs, hl, w⟩ => ?_
  rw [ev] at w
  refine ⟨F, ρ, hs, hl, (Aft.bind w).mono fun F1 H1 d v x1 s1 r1 q1 => ?_⟩
  refine ⟨F1, ρ, s1, hl.ext x1, (Aft.bind q1).mono fun F2 H2 l1 l2 x2 s2 e2 q2 => ?_⟩
  refine ⟨F2, ρ, s2, (hl.ext x1).ext x2, (Aft.bind q2).mono fun F3 H3 h1 h2 x3 s3 e3 q3 => ?_⟩
  have e2 : l1 = l2 := e2
  have e3 : h1 = h2 := e3
  subst e2 e3
  cases hz : slcD F3.st d l1 h1 with
  | none => rw [hz] at q3; exact q3.elim
  | some z =>
    rw [hz] at q3
    exact ⟨F3, d, z, s3, (r1.ext x2).ext x3, hz, fun H' v xe sn r => q3 F3 H' v rfl xe sn r⟩
theorem Reps.reverse {F : Fr} {H : Hp} : ∀ {ds : List D} {vs : List V}, Reps F H ds vs → Reps F H ds.reverse vs.reverse
  | [], vs, h => by
    rw [show vs = [] from h]
    rfl
  | d :: ds, _, ⟨v, r, e, h1, h2⟩ => by
    subst e
    rw [List.reverse_cons, List.reverse_cons]
    exact h2.reverse.append (.one h1)
theorem pe_revF {a : Ex} {x : Expr} {k : Nat} {p1 p2 p3 pos : Pos} (ha : PE X x (evT C W c a)) : PE X (.Subscript x (.Slice none none (some (.UnaryOp .USub (.Constant (.int 1) k p1) p2)) p3) pos) (evT C W c (.rev a)) := by
  refine imp_e (pe_revL ha) fun σ H Q ⟨F, ρ, hs, hl, w⟩ => ?_
  rw [ev] at w
  refine ⟨F, ρ, hs, hl, (Aft.bind w).mono fun F1 H1 d v x1 s1 r1 q1 => ?_⟩
  cases hi : items F1.st d with
  | none => rw [hi] at q1; exact q1.elim
  | some ds =>
    rw [hi] at q1
    obtain ⟨a, vs, ea, ha, rs⟩ := items_rep s1 r1 hi
    exact ⟨a, vs, ea, SqL.of ha, fun p hp => q1 F1 _ _ rfl (Ext.fresh F1 _ hp) (s1.fresh _ hp) (Rep.newL s1 hp rs.reverse)⟩
/-! ### a[:n:-1] -/
theorem rvb_range (m n : Nat) : sliceRange ((m : Int) - 1) (max (-1) (min (n : Int) ((m : Int) - 1))) (-1) = ((List.range m).drop (n + 1)).reverse := by
  have e0 : sliceRange ((m : Int) - 1) (max (-1) (min (n : Int) ((m : Int) - 1))) (-1) = ((List.range m).map fun k => m - 1 - k).take (m - (n + 1)) := by
    unfold sliceRange
    have h1 : ¬ ((-1 : Int) > 0) := by decide
    have h2 : (if (m : Int) - 1 > max (-1) (min (n : Int) ((m : Int) - 1)) then ((m : Int) - 1 - max (-1) (min (n : Int) ((m : Int) - 1)) - -1 - 1) / (- -1) else 0).toNat = m - (n + 1) := by
      rw [show (- -1 : Int) = 1 by decide, Int.ediv_one]
      split <;> omega
    simp only [h1, if_false, h2]
    rw [← List.map_take, List.take_range, Nat.min_eq_left (Nat.sub_le _ _)]
    apply List.map_congr_left
    intro k hk
    have := List.mem_range.mp hk
    omega
  rw [e0, PySem.W.krv_range, List.take_reverse, List.length_range]
  by_cases h : n + 1 ≤ m
  · rw [Nat.sub_sub_self h]
  · have e1 : m - (m - (n + 1)) = m := by omega
    rw [e1, List.drop_of_length_le (i := m) (by rw [List.length_range]; exact Nat.le_refl _), List.drop_of_length_le (i := n + 1) (by rw [List.length_range]; omega)]
theorem filterMap_drop {α β : Type} {f : α → Option β} : ∀ (l : List α) (k : Nat), (∀ x ∈ l, (f x).isSome = true) → (l.drop k).filterMap f = (l.filterMap f).drop k
  | _, 0, _ => rfl
  | [], k + 1, _ => rfl
  | x :: l, k + 1, h => by
    obtain ⟨y, e⟩ := Option.isSome_iff_exists.mp (h x List.mem_cons_self)
    rw [List.drop_succ_cons, List.filterMap_cons_some e, List.drop_succ_cons]
    exact filterMap_drop l k fun z hz => h z (List.mem_cons_of_mem _ hz)
theorem rvb_pick (items : Array Value) (n : Nat) : slicePick items none (some (n : Int)) (some (-1)) = ((items.toList.drop (n + 1)).reverse).toArray := by
  unfold slicePick
  have e : sliceBounds none (some (n : Int)) (some (-1)) items.size = ((items.size : Int) - 1, max (-1) (min (n : Int) ((items.size : Int) - 1)), -1) := by
    have h0 : ¬ ((n : Int) < 0) := by omega
    have h1 : ¬ ((-1 : Int) > 0) := by decide
    simp [sliceBounds, h0]
  rw [e]
  show ((sliceRange ((items.size : Int) - 1) _ (-1)).filterMap (items[·]?)).toArray = _
  rw [rvb_range, List.filterMap_reverse, filterMap_drop _ _ (fun x hx => by
    have := List.mem_range.mp hx
    simp [this]), PySem.W.krv_all]
theorem Vals.drop {xs : List V} {us : List Value} (r : Vals xs us) : ∀ k, Vals (xs.drop k) (us.drop k) := by
  induction r with
  | nil => intro k; rw [List.drop_nil, List.drop_nil]; exact .nil
  | cons a r ih =>
    intro k
    cases k with
    | zero => exact .cons a r
    | succ k => exact ih k
def tRvb (K : PySem.W.Frag) (n : Nat) (te : TE) : TE := fun σ H Q => te σ H fun x H1 => ∃ a xs, x = .ref a ∧ SqL K H1 a xs ∧ ∀ p, H1 p = none → Q (.ref p) (upd H1 p (.lst (xs.drop (n + 1)).reverse))
theorem pe_rvb {X : Cx} {e : Expr} {te : TE} {j k n : Nat} {p0 p1 p2 p3 pos : Pos} (he : PE X e te) : PE X (.Subscript e (.Slice none (some (.Constant (.int (.ofNat n)) j p0)) (some (.UnaryOp .USub (.Constant (.int 1) k p1) p2)) p3) pos) (tRvb X.K n te) := by
  refine ⟨fun pins s σ H Q I h => PyProof.Rows.Subscript_ (thn (he.run pins s σ H _ I h) fun v s1 ⟨x, H1, I1, r1, a, xs, ex, hx, q⟩ => ?_)⟩
  subst ex
  cases r1
  have hhi : PO X (some (.Constant (.int (.ofNat n)) j p0)) (tPart (tC (.int (.ofNat n)))) := po_some pe_int
  have hst : PO X (some (.UnaryOp .USub (.Constant (.int 1) k p1) p2)) (tPart (tUn (rU fun i => .int (-i)) (tC (.int 1)))) := po_some (pe_un un_neg pe_int)
  refine wpAny_Slice (thn (po_none.run pins s1 σ H1 (fun o H2 => o = none ∧ H2 = H1) I1 ⟨rfl, rfl⟩) fun vl s2 ⟨l, H2, I2, pl, el, e2⟩ => ?_)
  subst el e2
  refine thn (hhi.run pins s2 σ H2 (fun o H3 => o = some (.ofNat n) ∧ H3 = H2) I2 ⟨_, rfl, rfl, rfl⟩) fun vu s3 ⟨u, H3, I3, pu, eu, e3⟩ => ?_
  subst eu e3
  refine thn (hst.run pins s3 σ H3 (fun o H4 => o = some (-1) ∧ H4 = H3) I3 ⟨1, rfl, -1, rfl, rfl, rfl⟩) fun vs s4 ⟨o, H4, I4, ps, eo, e4⟩ => ?_
  subst eo e4
  have I5 : L2.Inv X pins σ H4 { s4 with heap := s4.heap.push { cls := .type "slice", data := .fields #[vl, vu, vs] } } := I4.kept (t' := s4.toks) fun b ob q => Heap.get?_push_of_some _ q
  obtain ⟨its, r, ht, hz⟩ := I5.list hx
  have hlen := r.length
  refine PyProof.Rows.tail_any (ops := [.ref a, .ref s4.heap.objs.size]) ht.isList.typeIs (PySem.slot_list_getitem.lookup) ?_ (by with_unfolding_all rfl)
  refine wpAny_getItem_list_slice ht.isList (Heap.IsSliceOf.new _ vl vu vs) pl pu ps (by decide) ?_ (by rw [List.size_toArray]; omega)
  have ep := rvb_pick its.toArray n
  rw [show (some (Int.ofNat n)) = some (n : Int) from rfl, ep]
  refine ⟨.ref _, _, I5.laid (t' := s4.toks) (o := .lst (xs.drop (n + 1)).reverse) (fun b ob q => Heap.get?_push_of_some _ q) (Nat.le_refl _) ?_, rfl, q _ (I5.hok.fresh (Nat.le_refl _))⟩
  exact ⟨by rw [List.length_reverse, List.length_drop]; omega, _, 0, (Vals.drop r (n + 1)).reverse, Heap.get?_push_size _ rfl⟩
theorem pe_rvbF {a : Ex} {x : Expr} {j k n : Nat} {p0 p1 p2 p3 pos : Pos} (ha : PE X x (evT C W c a)) : PE X (.Subscript x (.Slice none (some (.Constant (.int (.ofNat n)) j p0)) (some (.UnaryOp .USub (.Constant (.int 1) k p1) p2)) p3) pos) (evT C W c (.rvb a n)) := by
  refine imp_e (pe_rvb ha) fun σ H Q ⟨F, ρ, hs, hl, w⟩ => ?_
  rw [ev] at w
  refine ⟨F, ρ, hs, hl, (Aft.bind w).mono fun F1 H1 d v x1 s1 r1 q1 => ?_⟩
  cases hi : items F1.st d with
  | none => rw [hi] at q1; exact q1.elim
  | some ds =>
    rw [hi] at q1
    obtain ⟨a, vs, ea, ha, rs⟩ := items_rep s1 r1 hi
    exact ⟨a, vs, ea, SqL.of ha, fun p hp => q1 F1 _ _ rfl (Ext.fresh F1 _ hp) (s1.fresh _ hp) (Rep.newL s1 hp (Reps.drop (n + 1) rs).reverse)⟩
/-! ### displays -/
theorem pe_lstF {es : Exs} {xs : List Expr} {p : Pos} (h : PA X xs (evsT C W c es)) : PE X (.List xs p) (evT C W c (.lst es)) := by
  refine imp_e (pe_lst h) fun σ H Q ⟨F, ρ, hs, hl, w⟩ => ?_
  rw [ev] at w
  refine ⟨F, ρ, hs, hl, (Aft.bind w).mono fun F1 H1 ds vs x1 s1 r1 q1 => ?_⟩
  split at q1
  · rename_i hlen
    rw [line_eq, r1.length] at hlen
    exact ⟨hlen, fun p hp => q1 F1 _ _ rfl (Ext.fresh F1 _ hp) (s1.fresh _ hp) (Rep.newL s1 hp r1)⟩
  · exact q1.elim
theorem pe_tupF {es : Exs} {xs : List Expr} {k : Nat} {p : Pos} (h : PA X xs (evsT C W c es)) : PE X (.Tuple xs k p) (evT C W c (.tup es)) := by
  refine imp_e (pe_tup h) fun σ H Q ⟨F, ρ, hs, hl, w⟩ => ?_
  rw [ev] at w
  refine ⟨F, ρ, hs, hl, (Aft.bind w).mono fun F1 H1 ds vs x1 s1 r1 q1 => ?_⟩
  split at q1
  · rename_i hlen
    rw [line_eq, r1.length] at hlen
    exact ⟨hlen, fun p hp => q1 F1 _ _ rfl (Ext.fresh F1 _ hp) (s1.fresh _ hp) (Rep.newT s1 hp r1)⟩
  · exact q1.elim
theorem pe_dic0F {p : Pos} : PE X (.Dict [] [] p) (evT C W c .dic0) := by
  refine imp_e pe_dnewK fun σ H Q ⟨F, ρ, hs, hl, w⟩ => ?_
  rw [ev] at w
  exact fun p hp => w F _ _ rfl (Ext.fresh F _ hp) (hs.fresh _ hp) ⟨p, [], rfl, hs.nun hp, upd_same, rfl⟩
end
end MP
end
section
set_option maxRecDepth 100000
set_option maxHeartbeats 4000000
/-! MPSnd7: targets, what is walked. -/
namespace MP
open PySem L2
variable [Glo]
/-! ### slots -/
theorem wipe_get {σ : L2.St} {j : Nat} : ∀ vs : List Nat, (L2.wipe σ vs)[j]? = if j ∈ vs then (σ[j]?).map fun _ => none else σ[j]?
  | [] => by simp [L2.wipe]
  | v :: vs => by
    show ((L2.wipe σ vs).set v none)[j]? = _
    rw [List.getElem?_set, wipe_get vs, wipe_length]
    by_cases h : v = j
    · subst h
      by_cases hl : v < σ.length
      · simp [hl]
      · have e : σ[v]? = none := List.getElem?_eq_none (Nat.le_of_not_lt hl)
        simp [hl, e]
    · have h' : ¬ j = v := fun e => h e.symm
      simp [h, h']
theorem wipeD_get {ρ : Sl} {j : Nat} : ∀ vs : List Nat, (MP.wipe ρ vs)[j]? = if j ∈ vs then (ρ[j]?).map fun _ => none else ρ[j]?
  | [] => by simp [MP.wipe]
  | v :: vs => by
    have hlen : ∀ vs : List Nat, (MP.wipe ρ vs).length = ρ.length := fun vs => by
      induction vs with
      | nil => rfl
      | cons v vs ih => show ((MP.wipe ρ vs).set v none).length = _; rw [List.length_set, ih]
    show ((MP.wipe ρ vs).set v none)[j]? = _
    rw [List.getElem?_set, wipeD_get vs, hlen]
    by_cases h : v = j
    · subst h
      by_cases hl : v < ρ.length
      · simp [hl]
      · have e : ρ[v]? = none := List.getElem?_eq_none (Nat.le_of_not_lt hl)
        simp [hl, e]
    · have h' : ¬ j = v := fun e => h e.symm
      simp [h, h']
theorem wipeD_len {ρ : Sl} : ∀ vs : List Nat, (MP.wipe ρ vs).length = ρ.length
  | [] => rfl
  | v :: vs => by
    show ((MP.wipe ρ vs).set v none).length = _
    rw [List.length_set, wipeD_len vs]
theorem wipe_set {σ : L2.St} {i : Nat} {x : Option V} {own : List Nat} (h : i ∈ own) : L2.wipe (σ.set i x) own = L2.wipe σ own := by
  apply List.ext_getElem?
  intro j
  rw [wipe_get, wipe_get, List.getElem?_set]
  by_cases e : i = j
  · subst e
    by_cases hl : i < σ.length
    · simp [h, hl]
    · have e : σ[i]? = none := List.getElem?_eq_none (Nat.le_of_not_lt hl)
      simp [h, hl, e]
  · simp [e]
def setAll : L2.St → List Nat → List V → L2.St
  | σ, i :: is, v :: vs => setAll (σ.set i (some v)) is vs
  | σ, _, _ => σ
theorem wipe_setAll {own : List Nat} : ∀ (is : List Nat) (vs : List V) (σ : L2.St), (∀ i ∈ is, i ∈ own) → L2.wipe (setAll σ is vs) own = L2.wipe σ own
  | [], _, _, _ => rfl
  | _ :: _, [], _, _ => rfl
  | i :: is, v :: vs, σ, h => by
    show L2.wipe (setAll (σ.set i (some v)) is vs) own = _
    rw [wipe_setAll is vs _ fun j hj => h j (List.mem_cons_of_mem _ hj), wipe_set (h i List.mem_cons_self)]
section
variable {F : Fr} {H : Hp}
theorem Slo.wipe {ρ : Sl} {σ : L2.St} (h : Slo F H ρ σ) (vs : List Nat) : Slo F H (MP.wipe ρ vs) (L2.wipe σ vs) := by
  refine ⟨by rw [wipeD_len, wipe_length]; exact h.1, fun i d e => ?_⟩
  rw [wipeD_get] at e
  rw [wipe_get]
  by_cases hi : i ∈ vs
  · rw [if_pos hi] at e
    cases q : ρ[i]? with
    | none => rw [q] at e; cases e
    | some x => rw [q] at e; cases e
  · rw [if_neg hi] at e ⊢
    exact h.2 i d e
theorem Slo.set {ρ : Sl} {σ : L2.St} {d : D} {v : V} (h : Slo F H ρ σ) (i : Nat) (r : Rep F H d v) : Slo F H (ρ.set i (some d)) (σ.set i (some v)) := by
  refine ⟨by rw [List.length_set, List.length_set]; exact h.1, fun j e q => ?_⟩
  rw [List.getElem?_set] at q
  rw [List.getElem?_set]
  by_cases hj : i = j
  · subst hj
    rw [if_pos rfl] at q
    split at q
    · rename_i hl
      cases q
      rw [if_pos rfl, if_pos (by rw [← h.1]; exact hl)]
      exact ⟨v, rfl, r⟩
    · cases q
  · rw [if_neg hj] at q ⊢
    exact h.2 j e q
theorem Slo.asg1 : ∀ {is : List Nat} {ds : List D} {vs : List V} {ρ ρ1 : Sl} {σ : L2.St}, Slo F H ρ σ → Reps F H ds vs → MP.asg1 is ds ρ = some ρ1 → vs.length = is.length ∧ Slo F H ρ1 (setAll σ is vs)
  | [], [], vs, ρ, ρ1, σ, h, r, e => by
    cases e
    rw [show vs = [] from r]
    exact ⟨rfl, h⟩
  | [], _ :: _, _, _, _, _, _, _, e => by cases e
  | _ :: _, [], _, _, _, _, _, _, e => by cases e
  | i :: is, d :: ds, _, ρ, ρ1, σ, h, ⟨v, r, e1, h1, h2⟩, e => by
    subst e1
    have e : (if i < ρ.length then MP.asg1 is ds (ρ.set i (some d)) else none) = some ρ1 := e
    split at e
    · obtain ⟨q1, q2⟩ := (h.set i h1).asg1 h2 e
      exact ⟨congrArg Nat.succ q1, q2⟩
    · cases e
end
/-! ### targets -/
structure SX (se : SE) (X : Cx) : Prop where
  N : X.N = se.N
  nd : se.N.Nodup
  sc : X.env.scope = se.sc
  fn : ∀ x, se.fn x = true → X.fn x = true
  calm : X.calm = true
section
variable {se : SE} {X : Cx}
theorem locB_ok (S : SX se X) {x : Str} (h : locB se x = true) : Loc X.env.scope x ∧ (X.fn x = true ∨ X.env.scope.names.lookup x = some .local) := by
  unfold locB at h
  rw [← S.sc] at h
  split at h
  · rename_i e
    exact ⟨.inl e, .inr e⟩
  · rename_i e
    exact ⟨.inr e, .inl (S.fn x h)⟩
  · cases h
def gNs (is : List Nat) : TGs := fun vs σ H Q => vs.length = is.length ∧ Q (setAll σ is vs) H
theorem pgs_F (S : SX se X) : ∀ {is : List Nat} {xs : List Expr}, okNames se is xs = true → PGs X xs (gNs is) ∧ (assignEach xs X.env).length = is.length ∧ (assignEach xs X.env).findIdx? (·.1) = none
  | [], [], _ => ⟨⟨fun pins s σ H vs us Q I r ⟨h1, h2⟩ => pgs_nil.run pins s σ H vs us Q I r ⟨List.eq_nil_of_length_eq_zero h1, by
      have e : vs = [] := List.eq_nil_of_length_eq_zero h1
      subst e
      exact h2⟩⟩, rfl, rfl⟩
  | [], _ :: _, h => by cases h
  | _ :: _, [], h => by cases h
  | i :: is, x :: xs, h => by
    have h : ((match asName x with
      | some n => decide (se.N[i]? = some n) && locB se n
      | none => false) && okNames se is xs) = true := h
    rw [Bool.and_eq_true] at h
    obtain ⟨h1, h2⟩ := h
    cases e : asName x with
    | none => rw [e] at h1; cases h1
    | some n =>
      rw [e] at h1
      simp only [Bool.and_eq_true, decide_eq_true_eq] at h1
      obtain ⟨p, rfl⟩ := asName_eq e
      obtain ⟨q1, q2, q3⟩ := pgs_F S h2
      obtain ⟨l1, l2⟩ := locB_ok S h1.2
      refine ⟨⟨fun pins s σ H vs us Q I r ⟨w1, w2⟩ => (pgs_cons (pg_name (X := X) (i := i) (by rw [S.N]; exact S.nd) (by rw [S.N]; exact h1.1) l1 l2) q1 rfl).run pins s σ H vs us Q I r ?_⟩, ?_, ?_⟩
      · cases vs with
        | nil => cases w1
        | cons v vs => exact ⟨v, vs, rfl, Nat.succ.inj w1, w2⟩
      · show (assignEach xs X.env).length + 1 = _
        rw [q2]
        rfl
      · show ((false, assign (.Name n p) X.env) :: assignEach xs X.env).findIdx? (·.1) = none
        rw [List.findIdx?_cons, q3]
        rfl
/-- a target's reading -/
def gF (tg : List Nat) (tp : Bool) : TG := fun x σ H Q => ∃ F ρ d ρ1, Sto F H ∧ Slo F H ρ σ ∧ Rep F H d x ∧ asgT tg tp d ρ = some ρ1 ∧ ∀ σ1, Slo F H ρ1 σ1 → (∀ own : List Nat, (∀ i ∈ tg, i ∈ own) → L2.wipe σ1 own = L2.wipe σ own) → Q σ1 H
theorem pg_F (S : SX se X) {tg : List Nat} {tp : Bool} {x : Expr} (h : okG se tg tp x = true) : PG X x (gF tg tp) := by
  unfold okG at h
  cases tp with
  | true =>
    rw [if_pos rfl] at h
    cases e : asTup x with
    | none => rw [e] at h; cases h
    | some xs =>
      rw [e] at h
      obtain ⟨k, p, rfl⟩ := asTup_eq e
      obtain ⟨q1, q2, q3⟩ := pgs_F S h
      refine ⟨fun pins s σ H v u Q I r ⟨F, ρ, d, ρ1, hs, hl, rd, ea, q⟩ => (pg_tup (n := tg.length) S.calm q1 q2 q3).run pins s σ H v u Q I r ?_⟩
      cases d with
      | tup ds =>
        obtain ⟨a, vs, ev, _, ha, rs⟩ := rd
        have ea : asg1 tg ds ρ = some ρ1 := ea
        obtain ⟨z1, z2⟩ := hl.asg1 rs ea
        exact ⟨a, vs, ev, SqT.of ha, z1, z1, q _ z2 fun own ho => wipe_setAll _ _ _ ho⟩
      | _ => cases ea
  | false =>
    rw [if_neg Bool.false_ne_true, Bool.and_eq_true, decide_eq_true_eq] at h
    obtain ⟨h, hl1⟩ := h
    cases tg with
    | nil => cases h
    | cons i is =>
      cases is with
      | cons _ _ => cases hl1
      | nil =>
        have h9 : ((match asName x with
          | some n => decide (se.N[i]? = some n) && locB se n
          | none => false) && true) = true := h
        cases e : asName x with
        | none => rw [e] at h9; cases h9
        | some n =>
          rw [e] at h9
          simp only [Bool.and_eq_true, decide_eq_true_eq, and_true] at h9
          obtain ⟨p, rfl⟩ := asName_eq e
          obtain ⟨l1, l2⟩ := locB_ok S h9.2
          refine ⟨fun pins s σ H v u Q I r ⟨F, ρ, d, ρ1, hs, hl, rd, ea, q⟩ => (pg_name (X := X) (i := i) (by rw [S.N]; exact S.nd) (by rw [S.N]; exact h9.1) l1 l2).run pins s σ H v u Q I r ?_⟩
          have ea : asg1 [i] [d] ρ = some ρ1 := ea
          obtain ⟨z1, z2⟩ := hl.asg1 (.one rd) ea
          exact q _ z2 fun own ho => wipe_setAll [i] [v] _ ho
end
end MP
end
section
set_option maxRecDepth 100000
set_option maxHeartbeats 4000000
/-! MPSnd8: what is walked. -/
namespace MP
open PySem L2
variable [Glo]
/-- J walks w, as long as it stands still -/
def WR (F : Fr) (H : Hp) (w : Walk) (J : It) : Prop := ∀ F' H', Ext F H F' H' → Sto F' H' → still w F'.st = true →
  (∀ (i : Nat) (d : D), w.its[i]? = some d → J.go i H' ∧ ∀ x H'', J.yld i H' x H'' → Ext F' H' F' H'' ∧ Sto F' H'' ∧ Rep F' H'' d x) ∧ J.stop w.its.length H'
def evwT (C : Nat → Addr) (W : WX) (c : Cxt) (s : Sr) : TI := fun σ H R => ∃ F ρ, Sto F H ∧ Slo F H ρ σ ∧ Aft WR C (fun cl d H' => W cl d σ H') F H (evw c s ρ F.st) fun _ H' _ J => R J H'
section
variable {C : Nat → Addr} {W : WX} {c : Cxt} {X : Cx} {F : Fr} {H : Hp}
theorem sqL_inj {K : PySem.W.Frag} {H : Hp} {a : Addr} {xs ys : List V} (h : Rd H a (.lst xs)) (h' : Rd H a (.lst ys)) : xs = ys := by
  rcases h with h | ⟨o, h⟩ <;> rcases h' with h' | ⟨o', h'⟩ <;> (rw [h] at h'; cases h'; try rfl)
/-- a list that stands: its walk -/
theorem wr_list {w : Walk} {a : Addr} (hr : ∀ F' H', Ext F H F' H' → Sto F' H' → still w F'.st = true → ∃ vs, Rd H' a (.lst vs) ∧ Reps F' H' w.its vs) : WR F H w (Itl X.K a) := by
  intro F' H' x s st
  obtain ⟨vs, hv, rs⟩ := hr F' H' x s st
  refine ⟨fun i d hd => ?_, vs, .inl hv, by rw [rs.length]; exact Nat.le_refl _⟩
  obtain ⟨v, e, r⟩ := rs.get hd
  refine ⟨⟨vs, v, .inl hv, e⟩, fun y H'' ⟨e1, e2⟩ => ?_⟩
  subst e1
  have q := e2 vs (.inl hv)
  rw [e] at q
  cases q
  exact ⟨Ext.refl _ _, s, r⟩
theorem pi_lisF {e : Ex} {tg x : Expr} (h : PE X x (evT C W c e)) : PI X tg x (evwT C W c (.lis e)) := by
  refine ⟨fun pins s σ H Rr I ⟨F, ρ, hs, hl, w⟩ => (pi_list h).run pins s σ H Rr I ?_⟩
  rw [evw] at w
  refine ⟨F, ρ, hs, hl, (Aft.bind w).mono fun F1 H1 d v x1 s1 r1 q1 => ?_⟩
  cases d with
  | lst ds =>
    obtain ⟨a, vs, ea, hu, ha, rs⟩ := r1
    refine ⟨a, ea, ⟨vs, SqL.of ha⟩, q1 F1 H1 _ rfl (Ext.refl F1 H1) s1 (wr_list fun F' H' x s _ => ⟨vs, .inl (x.stay ha hu), rs.ext x⟩)⟩
  | scr ns =>
    obtain ⟨a, o, ea, hu, ha⟩ := r1
    refine ⟨a, ea, ⟨_, .inl (.inr ⟨o, ha⟩)⟩, q1 F1 H1 _ rfl (Ext.refl F1 H1) s1 (wr_list fun F' H' x s _ => ⟨_, .inr ⟨o, x.stay ha hu⟩, reps_ints ns⟩)⟩
  | cel k =>
    obtain ⟨ea, hk⟩ := r1
    have q1 : Aft WR C _ F1 H1 (match F1.st[k]? with
      | some (.lst ds) => R.ok { its := ds, cell := some k } F1.st
      | _ => .bad) _ := q1
    split at q1
    · rename_i ds hd
      obtain ⟨vs, ha, rs⟩ := s1.ce k _ hd
      refine ⟨_, ea, ⟨vs, SqL.of ha⟩, q1 F1 H1 _ rfl (Ext.refl F1 H1) s1 (wr_list fun F' H' x s st => ?_)⟩
      have st : (match F'.st[k]? with
        | some (.lst es) => sameL es ds
        | _ => false) = true := st
      split at st
      · rename_i es he
        rw [sameL_eq st] at he
        obtain ⟨us, hb, rs'⟩ := s.ce k _ he
        rw [x.al k hk] at hb
        exact ⟨us, .inl hb, rs'⟩
      · cases st
    · exact q1.elim
  | _ => exact q1.elim
theorem pi_tplF {e : Ex} {tg x : Expr} (h : PE X x (evT C W c e)) : PI X tg x (evwT C W c (.tpl e)) := by
  refine ⟨fun pins s σ H Rr I ⟨F, ρ, hs, hl, w⟩ => (pi_tup h).run pins s σ H Rr I ?_⟩
  rw [evw] at w
  refine ⟨F, ρ, hs, hl, (Aft.bind w).mono fun F1 H1 d v x1 s1 r1 q1 => ?_⟩
  cases d with
  | tup ds =>
    obtain ⟨a, vs, ea, hu, ha, rs⟩ := r1
    refine ⟨a, ea, ⟨vs, SqT.of ha⟩, q1 F1 H1 _ rfl (Ext.refl F1 H1) s1 fun F' H' x s st => ?_⟩
    have hb := x.stay ha hu
    have rs' := rs.ext x
    refine ⟨fun i d hd => ?_, vs, .inl (.inl hb), by rw [rs'.length]; exact Nat.le_refl _⟩
    obtain ⟨v, e, r⟩ := rs'.get hd
    refine ⟨⟨vs, v, .inl (.inl hb), e⟩, fun y H'' ⟨e1, e2⟩ => ?_⟩
    subst e1
    have q := e2 vs (.inl (.inl hb))
    rw [e] at q
    cases q
    exact ⟨Ext.refl _ _, s, r⟩
  | _ => exact q1.elim
theorem pi_txtF {e : Ex} {tg x : Expr} (h : PE X x (evT C W c e)) : PI X tg x (evwT C W c (.txt e)) := by
  refine ⟨fun pins s σ H Rr I ⟨F, ρ, hs, hl, w⟩ => (pi_str h).run pins s σ H Rr I ?_⟩
  rw [evw] at w
  refine ⟨F, ρ, hs, hl, (Aft.bind w).mono fun F1 H1 d v x1 s1 r1 q1 => ?_⟩
  cases d with
  | str z =>
    refine ⟨z, r1, q1 F1 H1 _ rfl (Ext.refl F1 H1) s1 fun F' H' x s st => ?_⟩
    refine ⟨fun i d hd => ?_, ?_⟩
    · have hd : (z.cps.toList.map fun k => D.str ⟨#[k]⟩)[i]? = some d := hd
      rw [List.getElem?_map] at hd
      cases q : z.cps.toList[i]? with
      | none => rw [q] at hd; cases hd
      | some k =>
        rw [q] at hd
        cases hd
        have hi := (List.getElem?_eq_some_iff.mp q).1
        refine ⟨(show i < z.cps.size by simpa using hi), fun y H'' ⟨e1, k', e2, e3⟩ => ?_⟩
        subst e1 e3
        have e2 : z.cps[i]? = some k' := e2
        rw [← Array.getElem?_toList, q] at e2
        cases e2
        exact ⟨Ext.refl _ _, s, rfl⟩
    · show z.cps.size ≤ (z.cps.toList.map fun k => D.str ⟨#[k]⟩).length
      simp
  | _ => exact q1.elim
theorem wr_range {lo : Int} {n : Nat} : WR F H { its := (List.range n).map fun (k : Nat) => D.int (lo + (k : Int)) } (Itr lo n) := by
  intro F' H' x s st
  refine ⟨fun i d hd => ?_, ?_⟩
  · have hd : ((List.range n).map fun (k : Nat) => D.int (lo + (k : Int)))[i]? = some d := hd
    rw [List.getElem?_map] at hd
    cases q : (List.range n)[i]? with
    | none => rw [q] at hd; cases hd
    | some k =>
      rw [q] at hd
      cases hd
      obtain ⟨hi, e⟩ := List.getElem?_eq_some_iff.mp q
      rw [List.getElem_range] at e
      subst e
      refine ⟨(show i < n by simpa using hi), fun y H'' ⟨e1, e2⟩ => ?_⟩
      subst e1 e2
      exact ⟨Ext.refl _ _, s, rfl⟩
  · show n ≤ ((List.range n).map fun (k : Nat) => D.int (lo + (k : Int))).length
    simp
theorem pi_rg1F {e : Ex} {tg x : Expr} {p pos : Pos} (hg : Gl X "range") (hm : X.mg "range" = none) (hst : starEach [x] X.env = [(false, eval x X.env)]) (h : PA X [x] (evsT C W c (.cons e .nil))) : PI X tg (.Call (.Name "range" p) [x] [] pos) (evwT C W c (.rg1 e)) := by
  refine ⟨fun pins s σ H Rr I ⟨F, ρ, hs, hl, w⟩ => (pi_range1 hg hm h hst).run pins s σ H Rr I ?_⟩
  rw [evw] at w
  refine ⟨F, ρ, hs, hl, ?_⟩
  rw [evs]
  cases hr : ev c e ρ F.st with
  | ok d st =>
    rw [hr] at w
    rw [R.bind_ok] at w ⊢
    rw [evs, R.bind_ok]
    intro F' H' vs e1 x1 s1 r1
    obtain ⟨v, r, e2, r2, r3⟩ := r1
    subst e2
    cases d with
    | int n =>
      have w : Aft WR C _ F H (if (decide (-(2 ^ 62) ≤ n) && decide (n < 2 ^ 62)) = true then R.ok { its := (List.range n.toNat).map fun (k : Nat) => D.int (k : Int) } st else .bad) _ := w
      split at w
      · rename_i hn
        simp only [Bool.and_eq_true, decide_eq_true_eq] at hn
        refine ⟨n, by rw [show v = _ from r2, show r = [] from r3], hn.1, hn.2, ?_⟩
        refine w F' H' _ e1 x1 s1 ?_
        have z := @wr_range _ F' H' 0 n.toNat
        simp only [Int.zero_add] at z
        exact z
      · exact w.elim
    | _ => exact w.elim
  | exc k d st =>
    rw [hr] at w
    exact w
  | bad =>
    rw [hr] at w
    exact w
theorem evs2 {e f : Ex} {ρ : Sl} {st : Store} : evs c (.cons e (.cons f .nil)) ρ st = (ev c e ρ st).bind fun x st => (ev c f ρ st).bind fun y st => .ok [x, y] st := by
  rw [evs]
  congr
  funext x st
  rw [evs]
  rw [bind_assoc]
  congr
theorem evs1 {e : Ex} {ρ : Sl} {st : Store} : evs c (.cons e .nil) ρ st = (ev c e ρ st).bind fun x st => .ok [x] st := by
  rw [evs]
  congr
/-- two arguments, read -/
theorem args2 {α β : Type} {Rel : Fr → Hp → α → β → Prop} {e f : Ex} {F : Fr} {ρ : Sl} {σ : L2.St} {H : Hp} {g : D → D → Store → R α} {Q : Fr → Hp → α → β → Prop} (hs : Sto F H) (hl : Slo F H ρ σ)
    (h : Aft Rel C (fun cl d H' => W cl d σ H') F H ((ev c e ρ F.st).bind fun x st => (ev c f ρ st).bind fun y st => g x y st) Q) {R2 : List V → Hp → Prop}
    (k : ∀ F2 H2 x y vx vy, Ext F H F2 H2 → Sto F2 H2 → Rep F2 H2 x vx → Rep F2 H2 y vy → Aft Rel C (fun cl d H' => W cl d σ H') F2 H2 (g x y F2.st) Q → R2 [vx, vy] H2) : evsT C W c (.cons e (.cons f .nil)) σ H R2 := by
  refine ⟨F, ρ, hs, hl, ?_⟩
  rw [evs2]
  cases hr : ev c e ρ F.st with
  | ok d st =>
    rw [hr] at h
    rw [R.bind_ok] at h ⊢
    cases hq : ev c f ρ st with
    | ok d' st' =>
      rw [hq] at h
      rw [R.bind_ok] at h ⊢
      intro F' H' vs e1 x1 s1 ⟨v, r, e2, r1, u, r', e3, r2, e4⟩
      subst e2 e3
      rw [show r' = [] from e4]
      subst e1
      exact k F' H' d d' v u x1 s1 r1 r2 (Aft.later x1 h)
    | exc k d st => rw [hq] at h; exact h
    | bad => rw [hq] at h; exact h
  | exc k d st => rw [hr] at h; exact h
  | bad => rw [hr] at h; exact h
theorem args1 {α β : Type} {Rel : Fr → Hp → α → β → Prop} {e : Ex} {F : Fr} {ρ : Sl} {σ : L2.St} {H : Hp} {g : D → Store → R α} {Q : Fr → Hp → α → β → Prop} (hs : Sto F H) (hl : Slo F H ρ σ)
    (h : Aft Rel C (fun cl d H' => W cl d σ H') F H ((ev c e ρ F.st).bind fun x st => g x st) Q) {R2 : List V → Hp → Prop}
    (k : ∀ F2 H2 x vx, Ext F H F2 H2 → Sto F2 H2 → Rep F2 H2 x vx → Aft Rel C (fun cl d H' => W cl d σ H') F2 H2 (g x F2.st) Q → R2 [vx] H2) : evsT C W c (.cons e .nil) σ H R2 := by
  refine ⟨F, ρ, hs, hl, ?_⟩
  rw [evs1]
  cases hr : ev c e ρ F.st with
  | ok d st =>
    rw [hr] at h
    rw [R.bind_ok] at h ⊢
    intro F' H' vs e1 x1 s1 ⟨v, r, e2, r1, e4⟩
    subst e2
    rw [show r = [] from e4]
    subst e1
    exact k F' H' d v x1 s1 r1 (Aft.later x1 h)
  | exc k d st => rw [hr] at h; exact h
  | bad => rw [hr] at h; exact h
theorem pi_rg2F {e f : Ex} {tg x y : Expr} {p pos : Pos} (hg : Gl X "range") (hm : X.mg "range" = none) (hst : starEach [x, y] X.env = [(false, eval x X.env), (false, eval y X.env)]) (hst2 : starEach [y] X.env = [(false, eval y X.env)]) (h : PA X [x, y] (evsT C W c (.cons e (.cons f .nil)))) :
    PI X tg (.Call (.Name "range" p) [x, y] [] pos) (evwT C W c (.rg2 e f)) := by
  refine ⟨fun pins s σ H Rr I ⟨F, ρ, hs, hl, w⟩ => (pi_range2 hg hm h hst hst2).run pins s σ H Rr I ?_⟩
  rw [evw] at w
  refine args2 hs hl w fun F2 H2 x y vx vy x2 s2 r1 r2 q => ?_
  cases x with
  | int l =>
    cases y with
    | int h =>
      have q : Aft WR C _ F2 H2 (if (decide (-(2 ^ 62) ≤ l) && decide (l < 2 ^ 62) && decide (-(2 ^ 62) ≤ h) && decide (h < 2 ^ 62)) = true then R.ok { its := (List.range (h - l).toNat).map fun (k : Nat) => D.int (l + (k : Int)) } F2.st else .bad) _ := q
      split at q
      · rename_i hn
        simp only [Bool.and_eq_true, decide_eq_true_eq] at hn
        exact ⟨l, h, by rw [show vx = _ from r1, show vy = _ from r2], ⟨hn.1.1.1, hn.1.1.2, hn.1.2, hn.2⟩, q F2 H2 _ rfl (Ext.refl _ _) s2 wr_range⟩
      · exact q.elim
    | _ => exact q.elim
  | _ => exact q.elim
theorem pairs_get : ∀ {ds : List D} {n i : Nat}, (pairs n ds)[i]? = (ds[i]?).map fun d => D.tup [.int ((n + i : Nat) : Int), d]
  | [], n, i => by simp [pairs]
  | d :: ds, n, 0 => by simp [pairs]
  | d :: ds, n, i + 1 => by
    show (pairs (n + 1) ds)[i]? = _
    rw [pairs_get, show n + 1 + i = n + (i + 1) by omega]
    rfl
theorem pairs_len : ∀ {ds : List D} {n : Nat}, (pairs n ds).length = ds.length
  | [], _ => rfl
  | d :: ds, n => congrArg Nat.succ pairs_len
theorem pi_enuF {e : Ex} {x : Expr} {p pos tpos : Pos} {elts : List Expr} {kk : Nat} (hg : Gl X "enumerate") (hm : X.mg "enumerate" = none) (hst : starEach [x] X.env = [(false, eval x X.env)]) (h : PA X [x] (evsT C W c (.cons e .nil))) :
    PI X (.Tuple elts kk tpos) (.Call (.Name "enumerate" p) [x] [] pos) (evwT C W c (.enu e)) := by
  refine ⟨fun pins s σ H Rr I ⟨F, ρ, hs, hl, w⟩ => (pi_enum hg hm h hst).run pins s σ H Rr I ?_⟩
  rw [evw] at w
  refine args1 hs hl w fun F1 H1 d v x1 s1 r1 q1 => ?_
  cases d with
  | lst ds =>
    obtain ⟨a, vs, ea, hu, ha, rs⟩ := r1
    refine ⟨a, vs, by rw [ea], SqL.of ha, q1 F1 H1 _ rfl (Ext.refl F1 H1) s1 fun F' H' x s st => ?_⟩
    have hb := x.stay ha hu
    have rs' := rs.ext x
    refine ⟨fun i d hd => ?_, vs, .inl (.inl hb), by show vs.length ≤ (pairs 0 ds).length; rw [pairs_len, rs'.length]; exact Nat.le_refl _⟩
    have hd : (pairs 0 ds)[i]? = some d := hd
    rw [pairs_get] at hd
    cases q : ds[i]? with
    | none => rw [q] at hd; cases hd
    | some z =>
      rw [q] at hd
      cases hd
      obtain ⟨v, e, r⟩ := rs'.get q
      refine ⟨⟨vs, v, .inl (.inl hb), e⟩, fun y H'' ⟨T, y', e1, hT, e2, e3⟩ => ?_⟩
      subst e1 e2
      have q := e3 vs (.inl (.inl hb))
      rw [e] at q
      cases q
      refine ⟨Ext.fresh _ _ hT, s.fresh _ hT, Rep.newT s hT ⟨.int i, [v], rfl, ?_, v, [], rfl, r, rfl⟩⟩
      show V.int i = V.int ((0 + i : Nat) : Int)
      rw [Nat.zero_add]
  | _ => exact q1.elim
theorem pi_zipF {e f : Ex} {x y : Expr} {p pos tpos : Pos} {elts : List Expr} {kk : Nat} (hg : Gl X "zip") (hm : X.mg "zip" = none) (hst : starEach [x, y] X.env = (false, eval x X.env) :: starEach [y] X.env) (hpl : (backTo pos (starEach [y] X.env)).any (·.1) = false) (h : PA X [x, y] (evsT C W c (.cons e (.cons f .nil)))) :
    PI X (.Tuple elts kk tpos) (.Call (.Name "zip" p) [x, y] [] pos) (evwT C W c (.zip false e f)) := by
  refine ⟨fun pins s σ H Rr I ⟨F, ρ, hs, hl, w⟩ => (RZ.pi_zipA hg hm h hst hpl).run pins s σ H Rr I ?_⟩
  rw [evw] at w
  refine args2 hs hl w fun F1 H1 d1 d2 v1 v2 x1 s1 r1 r2 q1 => ?_
  cases d1 with
  | lst ds =>
    cases d2 with
    | lst es =>
      have q1 : Aft WR C _ F1 H1 (if ds.length = es.length then R.ok { its := (ds.zip es).map fun p => D.tup [p.1, p.2] } F1.st else .bad) _ := q1
      split at q1
      · rename_i hlen
        obtain ⟨a, vs, ea, hu, ha, rs⟩ := r1
        obtain ⟨b, us, eb, hu2, hb, rt⟩ := r2
        refine ⟨a, b, vs, us, by rw [ea, eb], .inl ⟨SqL.of ha, SqL.of hb, q1 F1 H1 _ rfl (Ext.refl F1 H1) s1 fun F' H' x s st => ?_⟩⟩
        have ha' := x.stay ha hu
        have hb' := x.stay hb hu2
        have rs' := rs.ext x
        have rt' := rt.ext x
        refine ⟨fun i d hd => ?_, vs, us, .inl (.inl ha'), .inl (.inl hb'), .inl ?_⟩
        · have hd : ((ds.zip es).map fun p => D.tup [p.1, p.2])[i]? = some d := hd
          rw [List.getElem?_map] at hd
          cases q : (ds.zip es)[i]? with
          | none => rw [q] at hd; cases hd
          | some z =>
            rw [q] at hd
            cases hd
            rw [List.getElem?_zip_eq_some] at q
            obtain ⟨v, e, r⟩ := rs'.get q.1
            obtain ⟨u, e', r'⟩ := rt'.get q.2
            refine ⟨⟨vs, us, v, u, .inl (.inl ha'), .inl (.inl hb'), e, e'⟩, fun y H'' ⟨T, y1, y2, e1, hT, e2, e3, e4⟩ => ?_⟩
            subst e1 e2
            have q1 := e3 vs (.inl (.inl ha'))
            rw [e] at q1
            cases q1
            have q2 := e4 us (.inl (.inl hb'))
            rw [e'] at q2
            cases q2
            exact ⟨Ext.fresh _ _ hT, s.fresh _ hT, Rep.newT s hT ⟨v, [u], rfl, r, u, [], rfl, r', rfl⟩⟩
        · show vs.length ≤ ((ds.zip es).map fun p => D.tup [p.1, p.2]).length
          rw [List.length_map, List.length_zip, ← hlen, rs'.length]
          omega
      · exact q1.elim
    | _ => exact q1.elim
  | tup ds =>
    cases d2 with
    | tup es =>
      have q1 : Aft WR C _ F1 H1 (if ds.length = es.length then R.ok { its := (ds.zip es).map fun p => D.tup [p.1, p.2] } F1.st else .bad) _ := q1
      split at q1
      · rename_i hlen
        obtain ⟨a, vs, ea, hu, ha, rs⟩ := r1
        obtain ⟨b, us, eb, hu2, hb, rt⟩ := r2
        refine ⟨a, b, vs, us, by rw [ea, eb], .inr ⟨SqT.of ha, SqT.of hb, q1 F1 H1 _ rfl (Ext.refl F1 H1) s1 fun F' H' x s st => ?_⟩⟩
        have ha' := x.stay ha hu
        have hb' := x.stay hb hu2
        have rs' := rs.ext x
        have rt' := rt.ext x
        refine ⟨fun i d hd => ?_, vs, us, .inl (.inl ha'), .inl (.inl hb'), .inl ?_⟩
        · have hd : ((ds.zip es).map fun p => D.tup [p.1, p.2])[i]? = some d := hd
          rw [List.getElem?_map] at hd
          cases q : (ds.zip es)[i]? with
          | none => rw [q] at hd; cases hd
          | some z =>
            rw [q] at hd
            cases hd
            rw [List.getElem?_zip_eq_some] at q
            obtain ⟨v, e, r⟩ := rs'.get q.1
            obtain ⟨u, e', r'⟩ := rt'.get q.2
            refine ⟨⟨vs, us, v, u, .inl (.inl ha'), .inl (.inl hb'), e, e'⟩, fun y H'' ⟨T, y1, y2, e1, hT, e2, e3, e4⟩ => ?_⟩
            subst e1 e2
            have q1 := e3 vs (.inl (.inl ha'))
            rw [e] at q1
            cases q1
            have q2 := e4 us (.inl (.inl hb'))
            rw [e'] at q2
            cases q2
            exact ⟨Ext.fresh _ _ hT, s.fresh _ hT, Rep.newT s hT ⟨v, [u], rfl, r, u, [], rfl, r', rfl⟩⟩
        · show vs.length ≤ ((ds.zip es).map fun p => D.tup [p.1, p.2]).length
          rw [List.length_map, List.length_zip, ← hlen, rs'.length]
          omega
      · exact q1.elim
    | _ => exact q1.elim
  | _ => exact q1.elim
end
end MP
end
section
set_option maxRecDepth 100000
set_option maxHeartbeats 4000000
/-! MPZip: zip of two lists with strict=True. -/
namespace MP
open PySem PySem.Spec
/-- a strict zip -/
abbrev IsZipS (h : Heap) (z TI TO : Addr) (f0 : Value) : Prop :=
  h.get? z = some { cls := .type "zip", dict := none, data := .fields #[f0, .bool false, .bool true, .ref TI, .ref TO], slots := #[] }
section
variable {prog : Program} {w : World} {A : Around} {E : Value → Shared → Prop} {s : Shared}
theorem nextOrEnd_item {it l : Addr} {i : Nat} {items} {x : Value} {Q : Option Value → Shared → Prop} (hit : s.heap.IsListIter it l i) (hl : s.heap.IsList l items) (hx : items[i]? = some x)
    (hQ : ∀ h', h'.IsListIter it l (i + 1) → Heap.SameBut it s.heap h' → Q (some x) { s with heap := h' }) : wpAny (model prog w) A (Builtin.SmallTypes.nextOrEnd (.ref it)) Q E s := by
  unfold Builtin.SmallTypes.nextOrEnd
  refine wpAny_bind (wpAny_attempt (wpAny_nextOf_list_item hit hl hx fun h' a b => ?_))
  exact wpAny_pure (hQ h' a b)
theorem nextOrEnd_end {it l : Addr} {i : Nat} {items} {Q : Option Value → Shared → Prop} (hh : A.handled = none) (hit : s.heap.IsListIter it l i) (hl : s.heap.IsList l items) (hx : items[i]? = none)
    (hQ : ∀ h', Heap.ExtBut it s.heap h' → Q none { s with heap := h' }) : wpAny (model prog w) A (Builtin.SmallTypes.nextOrEnd (.ref it)) Q E s := by
  unfold Builtin.SmallTypes.nextOrEnd
  refine wpAny_bind (wpAny_attempt (wpAny_nextOf_list_end hh hit hl hx fun h' e a he => ?_))
  obtain ⟨o, ho, hc⟩ := he
  refine wpAny_bind (wpAny_isInstance (T := "StopIteration") (b := true) ⟨o, ho, hc⟩ isSubtype_stop ?_)
  exact wpAny_pure (hQ _ a)
theorem stop_raises {α : Type} {Q : α → Shared → Prop} (hh : A.handled = none) (hE : ∀ h' e, (∀ c o, s.heap.get? c = some o → h'.get? c = some o) → (∃ o, h'.get? e = some o ∧ o.cls = .type "StopIteration") → E (.ref e) { s with heap := h' }) :
    wpAny (model prog w) A (Builtin.SmallTypes.stopIteration : Sem α) Q E s := by
  unfold Builtin.SmallTypes.stopIteration
  refine wpAny_bind ?_
  simp only [newExc, newTuple]
  refine wpAny_bind (wpAny_newObj_type ?_ (by size_fits))
  refine wpAny_bind (m := firstArgMember _ _) (wpAny_of_eq (a := Value.none) (by first | rfl | (simp only [firstArgMember]; rfl)) ?_)
  refine wpAny_newObj_type ?_ (by size_fits)
  simp only [raiseNew]
  refine wpAny_bind (wpAny_handled ?_)
  first | rw [show A.in1.handled = none from hh] | rw [hh]
  refine wpAny_bind (wpAny_pure (wpAny_throw ?_))
  exact hE _ _ (fun c o e => Heap.get?_push_of_some _ (Heap.get?_push_of_some _ e)) ⟨_, Heap.get?_push_size _ rfl, rfl⟩
theorem zipS_item {z TI TO i1 i2 l1 l2 : Addr} {k1 k2 : Nat} {xs ys : Array Value} {x y a b : Value} {Q : Value → Shared → Prop} (D : ZipApart z TI TO i1 i2 l1 l2)
    (hz : IsZipS s.heap z TI TO .none) (hTI : IsPair s.heap TI (.ref i1) (.ref i2)) (hTO : IsPair s.heap TO a b)
    (h1 : s.heap.IsListIter i1 l1 k1) (h2 : s.heap.IsListIter i2 l2 k2) (hl1 : s.heap.IsList l1 xs) (hl2 : s.heap.IsList l2 ys) (hx : xs[k1]? = some x) (hy : ys[k2]? = some y)
    (hQ : ∀ h', IsZipS h' z TI TO (rawInt s.heap.objs.size) → IsPair h' TO x y → h'.IsListIter i1 l1 (k1 + 1) → h'.IsListIter i2 l2 (k2 + 1) → IsPair h' s.heap.objs.size x y → h'.objs.size = s.heap.objs.size + 1 →
      (∀ c o, c ≠ z → c ≠ TO → c ≠ i1 → c ≠ i2 → s.heap.get? c = some o → h'.get? c = some o) → Q (.ref s.heap.objs.size) { s with heap := h' }) :
    wpAny (model prog w) A (Builtin.«zip.__next__» ⟨[.ref z], []⟩) (fun fin s' => ∃ v, fin = .done (.ret v) ∧ Q v s') E s := by
  show wpAny _ _ (field (.ref z) 2 >>= _) _ _ _
  refine wpAny_bind (wpAny_field hz rfl (x := .bool true) rfl ?_)
  show wpAny _ _ (field (.ref z) 3 >>= _) _ _ _
  refine wpAny_bind (wpAny_field hz rfl (x := .ref TI) rfl ?_)
  refine wpAny_bind (wpAny_seqItems hTI rfl ?_)
  show wpAny _ _ (Builtin.SmallTypes.ownedTupleIsFree (.ref z) >>= _) _ _ _
  refine wpAny_bind ?_
  unfold Builtin.SmallTypes.ownedTupleIsFree
  refine wpAny_bind (wpAny_field hz rfl (x := .none) rfl (wpAny_pure ?_))
  simp only [if_true]
  refine wpAny_bind (wpAny_rule ?_)
  refine wpAny_bind (wpAny_field hz rfl (x := .ref TO) rfl ?_)
  refine wpAny_bind (wpAny_setField_rec hz (by simp) fun g1 hz1 k1' => ?_)
  replace hz1 : IsZipS g1 z TI TO .ellipsis := hz1
  refine wpAny_bind ?_
  simp only [List.zipIdx_cons, List.zipIdx_nil, List.forIn_cons, List.forIn_nil]
  refine wpAny_bind (wpAny_bind (wpAny_onRaise ?_))
  show wpAny _ _ (Builtin.SmallTypes.nextOrEnd (.ref i1)) _ _ _
  refine nextOrEnd_item (h1.extBut k1'.extBut D.i1z) (hl1.extBut k1'.extBut D.l1z) hx fun g2 h12 k2' => ?_
  have hTO2 : IsPair g2 TO a b := k2'.extBut _ _ D.TOi1 (k1'.extBut _ _ D.TOz hTO)
  refine wpAny_bind (wpAny_seqItems hTO2 rfl ?_)
  refine wpAny_bind (wpAny_updateSeq_pair hTO2 fun g3 hTO3 k3' => ?_)
  replace hTO3 : IsPair g3 TO x b := hTO3
  refine wpAny_bind (wpAny_letGo (wpAny_pure ?_))
  refine wpAny_bind (wpAny_bind (wpAny_onRaise ?_))
  show wpAny _ _ (Builtin.SmallTypes.nextOrEnd (.ref i2)) _ _ _
  refine nextOrEnd_item (((h2.extBut k1'.extBut D.i2z).extBut k2'.extBut D.i12.symm).extBut k3'.extBut D.TOi2.symm) (((hl2.extBut k1'.extBut D.l2z).extBut k2'.extBut D.l2i1).extBut k3'.extBut D.l2TO) hy fun g4 h24 k4' => ?_
  have hTO4 : IsPair g4 TO x b := k4'.extBut _ _ D.TOi2 hTO3
  refine wpAny_bind (wpAny_seqItems hTO4 rfl ?_)
  refine wpAny_bind (wpAny_updateSeq_pair hTO4 fun g5 hTO5 k5' => ?_)
  replace hTO5 : IsPair g5 TO x y := hTO5
  refine wpAny_bind (wpAny_letGo (wpAny_pure (wpAny_pure ?_)))
  refine wpAny_bind (wpAny_seqItems hTO5 rfl ?_)
  refine wpAny_bind (wpAny_newTuple ?_)
  have hsz : g5.objs.size = s.heap.objs.size := by rw [k5'.1, k4'.1, k3'.1, k2'.1, k1'.1]
  have hz5 : IsZipS g5 z TI TO .ellipsis := k5'.extBut _ _ D.TOz.symm (k4'.extBut _ _ D.i2z.symm (k3'.extBut _ _ D.TOz.symm (k2'.extBut _ _ D.i1z.symm hz1)))
  have hk5 : ∀ c o, c ≠ z → c ≠ TO → c ≠ i1 → c ≠ i2 → s.heap.get? c = some o → g5.get? c = some o := fun c o c1 c2 c3 c4 e =>
    k5'.extBut _ _ c2 (k4'.extBut _ _ c4 (k3'.extBut _ _ c2 (k2'.extBut _ _ c3 (k1'.extBut _ _ c1 e))))
  have h15 : g5.IsListIter i1 l1 (k1 + 1) := ((h12.extBut k3'.extBut D.TOi1.symm).extBut k4'.extBut D.i12).extBut k5'.extBut D.TOi1.symm
  have h25 : g5.IsListIter i2 l2 (k2 + 1) := h24.extBut k5'.extBut D.TOi2.symm
  have hzlt : z < g5.objs.size := Heap.lt_size hz5
  show wpAny _ _ (Builtin.SmallTypes.ownedTupleHandOut (.ref z) (.ref g5.objs.size) >>= _) _ _ _
  refine wpAny_bind ?_
  unfold Builtin.SmallTypes.ownedTupleHandOut
  have hz6 : IsZipS (g5.push { cls := .type "tuple", data := .seq #[x, y] }) z TI TO .ellipsis := Heap.get?_push_of_some _ hz5
  refine wpAny_bind (wpAny_setField_rec hz6 (by simp) fun g7 hz7 k7' => ?_)
  replace hz7 : IsZipS g7 z TI TO (rawInt g5.objs.size) := hz7
  refine wpAny_setField_rec hz7 (by simp) fun g8 hz8 k8' => ?_
  replace hz8 : IsZipS g8 z TI TO (rawInt g5.objs.size) := hz8
  have up : ∀ c o, c ≠ z → g5.get? c = some o → g8.get? c = some o := fun c o c1 e => k8'.extBut _ _ c1 (k7'.extBut _ _ c1 (Heap.get?_push_of_some _ e))
  have hT8 : IsPair g8 g5.objs.size x y := k8'.extBut _ _ (Nat.ne_of_gt hzlt) (k7'.extBut _ _ (Nat.ne_of_gt hzlt) (Heap.get?_push_size _ rfl))
  have s8 : g8.objs.size = g5.objs.size + 1 := by rw [k8'.1, k7'.1, Heap.size_push]
  rw [hsz] at hz8 hT8 s8
  refine wpAny_pure ⟨_, rfl, ?_⟩
  show Q (.ref g5.objs.size) _
  rw [hsz]
  exact hQ g8 hz8 (up _ _ D.TOz hTO5) (h15.at fun o e => up _ o D.i1z e) (h25.at fun o e => up _ o D.i2z e) hT8 s8 fun c o c1 c2 c3 c4 e => up c o c1 (hk5 c o c1 c2 c3 c4 e)
theorem zipS_end {z TI TO i1 i2 l1 l2 : Addr} {k1 k2 : Nat} {xs ys : Array Value} {a b : Value} {Q : Fin → Shared → Prop} (hh : A.handled = none) (D : ZipApart z TI TO i1 i2 l1 l2)
    (hz : IsZipS s.heap z TI TO .none) (hTI : IsPair s.heap TI (.ref i1) (.ref i2)) (hTO : IsPair s.heap TO a b)
    (h1 : s.heap.IsListIter i1 l1 k1) (h2 : s.heap.IsListIter i2 l2 k2) (hl1 : s.heap.IsList l1 xs) (hl2 : s.heap.IsList l2 ys) (hx : xs[k1]? = none) (hy : ys[k2]? = none)
    (hE : ∀ h' e, (∀ c o, c ≠ z → c ≠ TO → c ≠ i1 → c ≠ i2 → s.heap.get? c = some o → h'.get? c = some o) → (∃ o, h'.get? e = some o ∧ o.cls = .type "StopIteration") → E (.ref e) { s with heap := h' }) :
    wpAny (model prog w) A (Builtin.«zip.__next__» ⟨[.ref z], []⟩) Q E s := by
  show wpAny _ _ (field (.ref z) 2 >>= _) _ _ _
  refine wpAny_bind (wpAny_field hz rfl (x := .bool true) rfl ?_)
  show wpAny _ _ (field (.ref z) 3 >>= _) _ _ _
  refine wpAny_bind (wpAny_field hz rfl (x := .ref TI) rfl ?_)
  refine wpAny_bind (wpAny_seqItems hTI rfl ?_)
  show wpAny _ _ (Builtin.SmallTypes.ownedTupleIsFree (.ref z) >>= _) _ _ _
  refine wpAny_bind ?_
  unfold Builtin.SmallTypes.ownedTupleIsFree
  refine wpAny_bind (wpAny_field hz rfl (x := .none) rfl (wpAny_pure ?_))
  simp only [if_true]
  refine wpAny_bind (wpAny_rule ?_)
  refine wpAny_bind (wpAny_field hz rfl (x := .ref TO) rfl ?_)
  refine wpAny_bind (wpAny_setField_rec hz (by simp) fun g1 hz1 k1' => ?_)
  replace hz1 : IsZipS g1 z TI TO .ellipsis := hz1
  refine wpAny_bind ?_
  simp only [List.zipIdx_cons, List.zipIdx_nil, List.forIn_cons, List.forIn_nil]
  refine wpAny_bind (wpAny_bind (wpAny_onRaise ?_))
  show wpAny _ _ (Builtin.SmallTypes.nextOrEnd (.ref i1)) _ _ _
  refine nextOrEnd_end hh (h1.extBut k1'.extBut D.i1z) (hl1.extBut k1'.extBut D.l1z) hx fun g2 k2' => ?_
  have hz2 : IsZipS g2 z TI TO .ellipsis := k2' _ _ D.i1z.symm hz1
  refine wpAny_bind (wpAny_setField_rec hz2 (by simp) fun g3 hz3 k3' => ?_)
  refine wpAny_bind ?_
  show wpAny _ _ (forIn ((([Value.ref i1, Value.ref i2] : List Value).drop 1).zipIdx 1) PUnit.unit _ >>= _) _ _ _
  simp only [List.drop_succ_cons, List.drop_zero, List.zipIdx_cons, List.zipIdx_nil, List.forIn_cons, List.forIn_nil]
  have j2 : g3.IsListIter i2 l2 k2 := ((h2.extBut k1'.extBut D.i2z).at fun o e => k2' _ _ D.i12.symm e).extBut k3'.extBut D.i2z
  have m2 : g3.IsList l2 ys := ((hl2.extBut k1'.extBut D.l2z).at fun o e => k2' _ _ D.l2i1 e).extBut k3'.extBut D.l2z
  refine wpAny_bind (wpAny_bind (wpAny_bind (nextOrEnd_end hh j2 m2 hy fun g4 k4' => ?_)))
  refine wpAny_pure (wpAny_pure (wpAny_bind (wpAny_rule ?_)))
  refine stop_raises hh fun h' e k5' he => hE h' e (fun c o c1 c2 c3 c4 q => k5' _ _ (k4' _ _ c4 (k3'.extBut _ _ c1 (k2' _ _ c3 (k1'.extBut _ _ c1 q))))) he
theorem pyNextS_item {z TI TO i1 i2 l1 l2 : Addr} {k1 k2 : Nat} {xs ys : Array Value} {x y a b : Value} {Q : Option Value → Shared → Prop} (D : ZipApart z TI TO i1 i2 l1 l2)
    (hz : IsZipS s.heap z TI TO .none) (hTI : IsPair s.heap TI (.ref i1) (.ref i2)) (hTO : IsPair s.heap TO a b)
    (h1 : s.heap.IsListIter i1 l1 k1) (h2 : s.heap.IsListIter i2 l2 k2) (hl1 : s.heap.IsList l1 xs) (hl2 : s.heap.IsList l2 ys) (hx : xs[k1]? = some x) (hy : ys[k2]? = some y)
    (hQ : ∀ h', IsZipS h' z TI TO (rawInt s.heap.objs.size) → IsPair h' TO x y → h'.IsListIter i1 l1 (k1 + 1) → h'.IsListIter i2 l2 (k2 + 1) → IsPair h' s.heap.objs.size x y → h'.objs.size = s.heap.objs.size + 1 →
      (∀ c o, c ≠ z → c ≠ TO → c ≠ i1 → c ≠ i2 → s.heap.get? c = some o → h'.get? c = some o) → Q (some (.ref s.heap.objs.size)) { s with heap := h' }) :
    wpAny (model prog w) A (pyNext (.ref z)) Q E s := by
  have hT : s.TypeIs (.ref z) "zip" := ⟨_, hz, rfl⟩
  unfold pyNext
  exact wpAny_bind (wpAny_attempt (wpAny_callSpecial?_slot (name := Str.ofString "__next__") hT F.slot_zip_next
    (wpAny_call_entry F.slot_zip_next hT F.entry_zip_next
      (zipS_item D hz hTI hTO h1 h2 hl1 hl2 hx hy fun h' a1 a2 a3 a4 a5 a6 a7 => wpAny_pure (hQ h' a1 a2 a3 a4 a5 a6 a7)) (F.args_zip_next_1 _))))
theorem pyNextS_end {z TI TO i1 i2 l1 l2 : Addr} {k1 k2 : Nat} {xs ys : Array Value} {a b : Value} {Q : Option Value → Shared → Prop} (hh : A.handled = none) (D : ZipApart z TI TO i1 i2 l1 l2)
    (hz : IsZipS s.heap z TI TO .none) (hTI : IsPair s.heap TI (.ref i1) (.ref i2)) (hTO : IsPair s.heap TO a b)
    (h1 : s.heap.IsListIter i1 l1 k1) (h2 : s.heap.IsListIter i2 l2 k2) (hl1 : s.heap.IsList l1 xs) (hl2 : s.heap.IsList l2 ys) (hx : xs[k1]? = none) (hy : ys[k2]? = none)
    (hQ : ∀ h', (∀ c o, c ≠ z → c ≠ TO → c ≠ i1 → c ≠ i2 → s.heap.get? c = some o → h'.get? c = some o) → Q none { s with heap := h' }) : wpAny (model prog w) A (pyNext (.ref z)) Q E s := by
  have hT : s.TypeIs (.ref z) "zip" := ⟨_, hz, rfl⟩
  unfold pyNext
  refine wpAny_bind (wpAny_attempt (wpAny_callSpecial?_slot (name := Str.ofString "__next__") hT F.slot_zip_next
    (wpAny_call_entry F.slot_zip_next hT F.entry_zip_next (zipS_end hh D hz hTI hTO h1 h2 hl1 hl2 hx hy fun h' e hk he => ?_) (F.args_zip_next_1 _))))
  obtain ⟨o, ho, hc⟩ := he
  refine wpAny_bind (wpAny_isInstance (T := "StopIteration") (b := true) ⟨o, ho, hc⟩ isSubtype_stop ?_)
  exact wpAny_pure (hQ _ hk)
theorem letGoS {elts : List Expr} {x1} {pos : Pos} {z TI TO T : Addr} {Q : Unit → Shared → Prop} (hz : IsZipS s.heap z TI TO (rawInt T))
    (hQ : ∀ h', IsZipS h' z TI TO .none → Heap.SameBut z s.heap h' → Q () { s with heap := h' }) :
    wpAny (model prog w) A (letOwnedTupleGo (.Tuple elts x1 pos) (.ref z) (.ref T)) Q E s := by
  unfold letOwnedTupleGo
  refine wpAny_bind (wpAny_load hz ?_)
  show wpAny _ _ (if (["enumerate", "zip", "dict_itemiterator", "dict_reverseitemiterator", "odict_iterator", "itertools.zip_longest", "itertools.pairwise"].contains "zip" &&
      (#[rawInt T, .bool false, .bool true, .ref TI, .ref TO] : Array Value)[0]? == some (rawInt T)) = true then _ else _) Q E s
  rw [if_pos (by simp)]
  refine wpAny_bind (wpAny_rule ?_)
  show wpAny _ _ (setField (.ref z) 0 .none) Q E s
  exact wpAny_setField_rec hz (by simp) fun h' hz' hs' => hQ h' hz' hs'
theorem pyIterS {z TI TO : Addr} {f0 : Value} {Q : Value → Shared → Prop} (hz : IsZipS s.heap z TI TO f0) (h : Q (.ref z) s) : wpAny (model prog w) A (pyIter (.ref z)) Q E s := by
  have hT : s.TypeIs (.ref z) "zip" := ⟨_, hz, rfl⟩
  refine wpAny_pyIter_slot hT F.slot_zip_iter (wpAny_call_entry F.slot_zip_iter hT F.entry_zip_iter ?_ (F.args_zip_iter_1 _))
  show wpAny _ _ (ret (.ref z)) _ _ s
  exact wpAny_pure ⟨_, rfl, "zip", _, hT, F.slot_zip_next.lookup, h⟩
end
abbrev kwS (t : Value) : List (Str × Value) := [(Str.ofString "strict", t)]
theorem typeCall_zipS (a b t : Value) : checkTypeCall "zip" ⟨[a, b], [(Str.ofString "strict", t)]⟩ = pure () := by kernel_rfl
theorem newCall_zipS (a b t : Value) : checkBuiltinCall "zip.__new__" ⟨[.type "zip", a, b], [(Str.ofString "strict", t)]⟩ = pure () := by kernel_rfl
theorem args_zipS (obj a b t : Value) : argsOk "object.__init__" ⟨[obj, a, b], [(Str.ofString "strict", t)]⟩ := by unfold argsOk; kernel_rfl
abbrev zipK5 (h : Heap) (l1 l2 : Addr) : Heap := (zipH4 h l1 l2).push { cls := .type "zip", data := .fields #[.none, .bool false, .bool true, .ref (zipH2 h l1 l2).objs.size, .ref (zipH3 h l1 l2).objs.size] }
theorem meets_zipS_new (l1 l2 : Addr) (xs ys : Array Value) :
    Meets (Builtin.«zip.__new__» ⟨[.type "zip", .ref l1, .ref l2], [(Str.ofString "strict", .bool true)]⟩) (fun _ R s => s.heap.IsList l1 xs ∧ s.heap.IsList l2 ys ∧
      R (.ok (.ret (.ref (zipH4 s.heap l1 l2).objs.size))) { s with heap := zipK5 s.heap l1 l2 }) :=
  .of_wp fun prog w A R s h => by
    obtain ⟨hp, g, d, tk, os⟩ := s; obtain ⟨hl1, hl2, h⟩ := h
    have hsub := sub_zip
    have hL1 : Heap.IsList (Shared.heap ⟨hp, g, d, tk, os⟩) l1 xs := hl1
    have hL2 : Heap.IsList (Shared.heap ⟨hp.push { cls := .type "list_iterator", data := .fields #[.ref l1, .int 0 0] }, g, d, tk, os⟩) l2 ys := Heap.IsList.push hl2 _
    have e2 : (Str.ofString "strict" != ("strict" : Str)) = false := by decide +kernel
    wp_walk using wpAny_pyIter_list hL1, wpAny_pyIter_list hL2
    exact ⟨_, rfl, h⟩
section
variable {prog : Program} {w : World} {A : Around} {E : Value → Shared → Prop} {s : Shared}
theorem call_zipS {l1 l2 : Addr} {xs ys : Array Value} {Q : Value → Shared → Prop} (hl1 : s.heap.IsList l1 xs) (hl2 : s.heap.IsList l2 ys)
    (h : ∀ h', IsZipS h' (s.heap.objs.size + 4) (s.heap.objs.size + 2) (s.heap.objs.size + 3) .none → IsPair h' (s.heap.objs.size + 2) (.ref s.heap.objs.size) (.ref (s.heap.objs.size + 1)) →
      IsPair h' (s.heap.objs.size + 3) .none .none → h'.IsListIter s.heap.objs.size l1 0 → h'.IsListIter (s.heap.objs.size + 1) l2 0 → h'.objs.size = s.heap.objs.size + 5 →
      (∀ c o, s.heap.get? c = some o → h'.get? c = some o) → Q (.ref (s.heap.objs.size + 4)) { s with heap := h' }) :
    wpAny (model prog w) A (call (.type "zip") [.ref l1, .ref l2] [(Str.ofString "strict", .bool true)]) Q E s := by
  refine callType_newKw F.called_zip (by decide) (typeCall_zipS _ _ _) (newCall_zipS _ _ _) (fun obj => args_zipS obj _ _ _) F.entry_zip_new (meets_zipS_new l1 l2 xs ys) ⟨hl1, hl2, ?_⟩
  have z1 : (zipH1 s.heap l1).objs.size = s.heap.objs.size + 1 := Heap.size_push ..
  have z2 : (zipH2 s.heap l1 l2).objs.size = s.heap.objs.size + 2 := by rw [Heap.size_push, z1]
  have z3 : (zipH3 s.heap l1 l2).objs.size = s.heap.objs.size + 3 := by rw [Heap.size_push, z2]
  have z4 : (zipH4 s.heap l1 l2).objs.size = s.heap.objs.size + 4 := by rw [Heap.size_push, z3]
  have z5 : (zipK5 s.heap l1 l2).objs.size = s.heap.objs.size + 5 := by rw [Heap.size_push, z4]
  have g5 : (zipK5 s.heap l1 l2).get? (zipH4 s.heap l1 l2).objs.size = some _ := Heap.get?_push_size _ rfl
  have g4 : (zipK5 s.heap l1 l2).get? (zipH3 s.heap l1 l2).objs.size = some _ := Heap.get?_push_of_some _ (Heap.get?_push_size _ rfl)
  have g3 : (zipK5 s.heap l1 l2).get? (zipH2 s.heap l1 l2).objs.size = some _ := Heap.get?_push_of_some _ (Heap.get?_push_of_some _ (Heap.get?_push_size _ rfl))
  have g2 : (zipK5 s.heap l1 l2).get? (zipH1 s.heap l1).objs.size = some _ := Heap.get?_push_of_some _ (Heap.get?_push_of_some _ (Heap.get?_push_of_some _ (Heap.get?_push_size _ rfl)))
  have g1 : (zipK5 s.heap l1 l2).get? s.heap.objs.size = some _ := Heap.get?_push_of_some _ (Heap.get?_push_of_some _ (Heap.get?_push_of_some _ (Heap.get?_push_of_some _ (Heap.get?_push_size _ rfl))))
  show _ ∧ _
  rw [z2, z3, z4] at g5
  rw [z1, z2] at g3
  rw [z3] at g4
  rw [z1] at g2
  rw [z4]
  exact ⟨⟨_, g5, rfl⟩, h _ g5 g3 g4 ⟨_, g1, rfl, rfl⟩ ⟨_, g2, rfl, rfl⟩ z5 fun c o x =>
    Heap.get?_push_of_some _ (Heap.get?_push_of_some _ (Heap.get?_push_of_some _ (Heap.get?_push_of_some _ (Heap.get?_push_of_some _ x))))⟩
end
end MP
end
section
set_option maxRecDepth 100000
set_option maxHeartbeats 4000000
namespace MP
open PySem PySem.Spec PyProof.Rows L2
/-- two lists of one length, the items in new pairs -/
def ItzS (K : PySem.W.Frag) (a b : Addr) : It :=
  ⟨fun i H => ∃ (xs ys : List V) (x y : V), SqL K H a xs ∧ SqL K H b ys ∧ xs[i]? = some x ∧ ys[i]? = some y,
    fun i H v H' => ∃ T x y, v = .ref T ∧ H T = none ∧ H' = upd H T (.tup [x, y]) ∧ (∀ xs, SqL K H a xs → xs[i]? = some x) ∧ ∀ ys, SqL K H b ys → ys[i]? = some y,
    fun i H => ∃ xs ys : List V, SqL K H a xs ∧ SqL K H b ys ∧ xs.length ≤ i ∧ ys.length ≤ i⟩
theorem turn_zipS {P : Program} {w : World} {K : PySem.W.Frag} {elts : List Expr} {kk : Nat} {tpos : Pos} {a b z TI TO i1 i2 : Addr} (D : ZipApart z TI TO i1 i2 a b) :
    Turn P w K (.Tuple elts kk tpos) (ItzS K a b) [z, TI, TO, i1, i2] z (fun i h => IsZipS h z TI TO .none ∧ IsPair h TI (.ref i1) (.ref i2) ∧ (∃ x y, IsPair h TO x y) ∧ h.IsListIter i1 a i ∧ h.IsListIter i2 b i) where
  mem := by simp
  obj := fun i h st c hc => by
    obtain ⟨hz, hTI, ⟨x, y, hTO⟩, ⟨o1, e1, _, d1⟩, ⟨o2, e2, _, d2⟩⟩ := st
    have e' : c = z ∨ c = TI ∨ c = TO ∨ c = i1 ∨ c = i2 := by simpa using hc
    rcases e' with q | q | q | q | q
    · rw [q]; exact ⟨_, hz, fun v q => nomatch q⟩
    · rw [q]; exact ⟨_, hTI, fun v q => nomatch q⟩
    · rw [q]; exact ⟨_, hTO, fun v q => nomatch q⟩
    · rw [q]; exact ⟨o1, e1, fun v q => by rw [d1] at q; cases q⟩
    · rw [q]; exact ⟨o2, e2, fun v q => by rw [d2] at q; cases q⟩
  keep := fun i h h' st k => by
    obtain ⟨hz, hTI, ⟨x, y, hTO⟩, h1, h2⟩ := st
    exact ⟨k z (by simp) _ hz, k TI (by simp) _ hTI, ⟨x, y, k TO (by simp) _ hTO⟩, h1.at fun o q => k i1 (by simp) o q, h2.at fun o q => k i2 (by simp) o q⟩
  item := by
    intro X hP hw hK hc i pins s σ H E I hf st hg
    subst hP hw hK
    obtain ⟨hz, hTI, ⟨x0, y0, hTO⟩, h1, h2⟩ := st
    obtain ⟨xs, ys, x, y, hqx, hqy, hx, hy⟩ := hg
    obtain ⟨its, rv, p, _⟩ := I.list hqx
    obtain ⟨its2, rv2, p2, _⟩ := I.list hqy
    obtain ⟨u, hu, ru⟩ := rv.get hx
    obtain ⟨u2, hu2, ru2⟩ := rv2.get hy
    have hzl : z < s.heap.objs.size := Heap.lt_size hz
    refine pyNextS_item D hz hTI hTO h1 h2 p.isList p2.isList (x := u) (y := u2) (by simpa using hu) (by simpa using hu2) fun h' z' TO' h1' h2' hT hsz hk => ?_
    refine ⟨_, rfl, letGoS (s := { s with heap := h' }) z' fun h'' z'' sb => ?_⟩
    have hT2 : h''.get? s.heap.objs.size = some { cls := .type "tuple", data := .seq #[u, u2] } := (sb.2 _ (Nat.ne_of_gt hzl)).trans hT
    have new : ObjOk X.prog X.w (upd H s.heap.objs.size (.tup [x, y])) h'' s.heap.objs.size (.tup [x, y]) :=
      ⟨by show 2 ≤ sizeLine; decide, [u, u2], .cons ru (.cons ru2 .nil), ⟨_, hT2, rfl, _, rfl⟩⟩
    have I1 : Inv X pins σ (upd H s.heap.objs.size (.tup [x, y])) { s with heap := h'' } :=
      I.turnedNew (t' := s.toks) (ch := [z, TI, TO, i1, i2]) (fun c o hb q => (sb.2 c (fun q' => hb (by simp [q']))).trans (hk c o (fun q' => hb (by simp [q'])) (fun q' => hb (by simp [q'])) (fun q' => hb (by simp [q'])) (fun q' => hb (by simp [q'])) q)) hf (Nat.le_refl _) new
    refine ⟨.ref s.heap.objs.size, _, I1, rfl, ⟨_, x, y, rfl, I.hok.fresh (Nat.le_refl _), rfl, fun l hl => by rw [I.list_inj hl hqx]; exact hx, fun l hl => by rw [I.list_inj hl hqy]; exact hy⟩, ⟨z'', ?_, ⟨u, u2, ?_⟩, ?_, ?_⟩, fun c hcm => ?_⟩
    · exact (sb.2 _ D.TIz).trans (hk _ _ D.TIz D.TITO D.TIi1 D.TIi2 hTI)
    · exact (sb.2 _ D.TOz).trans TO'
    · exact h1'.at fun o q => (sb.2 _ D.i1z).trans q
    · exact h2'.at fun o q => (sb.2 _ D.i2z).trans q
    · have hlt : c < s.heap.objs.size := by
        have e' : c = z ∨ c = TI ∨ c = TO ∨ c = i1 ∨ c = i2 := by simpa using hcm
        rcases e' with q | q | q | q | q
        · rw [q]; exact hzl
        · rw [q]; exact Heap.lt_size hTI
        · rw [q]; exact Heap.lt_size hTO
        · rw [q]; obtain ⟨_, e1, _⟩ := h1; exact Heap.lt_size e1
        · rw [q]; obtain ⟨_, e2, _⟩ := h2; exact Heap.lt_size e2
      rw [upd_ne (Nat.ne_of_lt hlt)]
      exact (hf c hcm).1
  done := by
    intro X hP hw hK hc i pins s σ H E I hf st hg
    subst hP hw hK
    obtain ⟨hz, hTI, ⟨x0, y0, hTO⟩, h1, h2⟩ := st
    obtain ⟨xs, ys, hqx, hqy, e1, e2⟩ := hg
    obtain ⟨its, rv, p, _⟩ := I.list hqx
    obtain ⟨its2, rv2, p2, _⟩ := I.list hqy
    have l1 := rv.length
    have l2 := rv2.length
    have he1 : its.toArray[i]? = none := by simp; omega
    have he2 : its2.toArray[i]? = none := by simp; omega
    exact pyNextS_end (I.ok.hd hc) D hz hTI hTO h1 h2 p.isList p2.isList he1 he2 fun h' hk => ⟨rfl, I.turnedL (t' := s.toks) (ch := [z, TI, TO, i1, i2]) (fun c o hb q =>
      hk c o (fun q' => hb (by simp [q'])) (fun q' => hb (by simp [q'])) (fun q' => hb (by simp [q'])) (fun q' => hb (by simp [q'])) q) hf⟩
  self := fun A i s Q E st h => pyIterS st.1 h
end MP
end
section
set_option maxRecDepth 100000
set_option maxHeartbeats 4000000
namespace MP
open PySem PySem.Spec PyProof.Rows L2
section
variable {M : Model} {A : Around} {E : Value → Shared → Prop} {s : Shared}
theorem callWith_typeK {pos : Pos} {T : String} {first : List Value} {args : List (Bool × Sem Value)} {kws : List (Option Str × Sem Value)} {Q : Value → Shared → Prop} (hplain : args.any (·.1) = false) (hk : kws.any (·.1.isNone) = false)
    (h : wpAny M A (evalArgs (.type T) true args kws) (fun a s₁ => wpAny M A (call (.type T) (first ++ a.pos) a.kw) Q E s₁) E s) :
    wpAny M A (callWith pos (.type T) first args kws) Q E s := by
  unfold callWith
  refine wpAny_bind (wpAny_holding (wpAny_mono h (fun a s₁ h₁ => wpAny_bind (wpAny_standAt ?_)) fun _ _ x => x))
  simp only [hplain, hk, Bool.or_false]
  refine wpAny_bind (wpAny_pure ?_)
  exact wpAny_bind (wpAny_mono h₁ (fun r s₂ hr => wpAny_bind (wpAny_holding (wpAny_point (wpAny_pure hr)))) fun _ _ x => x)
end
def iZipS (K : PySem.W.Frag) (ta : TA) : TI := fun σ H R => ta σ H fun vs H1 => ∃ a b xs ys, vs = [.ref a, .ref b] ∧ SqL K H1 a xs ∧ SqL K H1 b ys ∧ R (ItzS K a b) H1
theorem pi_zipS {X : Cx} {e e2 k : Expr} {ta : TA} {p pos tpos kp : Pos} {elts : List Expr} {kk : Nat} (hg : Gl X "zip") (hm : X.mg "zip" = none) (ha : PA X [e, e2] ta) (hk : PE X k (fun σ H Q => Q (.bl true) H))
    (hs : starEach [e, e2] X.env = (false, eval e X.env) :: starEach [e2] X.env := by rfl) (hpl : (backTo pos (starEach [e2] X.env)).any (·.1) = false := by rfl) :
    PI X (.Tuple elts kk tpos) (.Call (.Name "zip" p) [e, e2] [⟨some (Str.ofString "strict"), k, kp⟩] pos) (iZipS X.K ta) := by
  refine ⟨fun pins s σ H R I h => ?_⟩
  refine wpAny_Call_Name_kw (ld_blt I hg hm PyProof.Rows.boot_zip ?_)
  have he : backTo pos (starEach [e, e2] X.env) = (false, eval e X.env) :: backTo pos (starEach [e2] X.env) := by rw [hs]; rfl
  refine callWith_typeK (by rw [he, List.any_cons, hpl]; rfl) rfl ?_
  rw [he]
  refine evalArgs_kwB rfl ?_
  rw [← he]
  refine thn (ha.run pos pins s σ H _ I h) fun us s1 ⟨vs, H1, I1, r1, q1⟩ => kws_cons ?_
  refine thn (hk.run pins s1 σ H1 (fun v H2 => v = .bl true ∧ H2 = H1) I1 ⟨rfl, rfl⟩) fun v s2 ⟨x, H2, I2, rv, q2⟩ => kws_nil ?_
  obtain ⟨rfl, rfl⟩ := q2
  obtain ⟨a, b, xs, ys, ex, hqx, hqy, q⟩ := q1
  subst ex
  cases (show v = Value.bool true from rv)
  cases r1 with
  | cons r rr =>
    cases rr with
    | cons r' rr =>
      cases rr
      cases r
      cases r'
      obtain ⟨its, rv, p1, _⟩ := I2.list hqx
      obtain ⟨its2, rv2, p2, _⟩ := I2.list hqy
      show wpAny _ _ (call (.type "zip") [.ref a, .ref b] [(Str.ofString "strict", .bool true)]) _ _ _
      refine call_zipS p1.isList p2.isList fun h' hz hTI hTO h1 h2 hsz hk => pyIterS hz ?_
      have I3 : L2.Inv X pins σ H2 { s2 with heap := h' } := I2.kept (t' := s2.toks) hk
      refine ⟨s2.heap.objs.size + 4, [s2.heap.objs.size + 4, s2.heap.objs.size + 2, s2.heap.objs.size + 3, s2.heap.objs.size, s2.heap.objs.size + 1], _, _, H2, rfl, I3, turn_zipS (PySem.W.ktu_apart s2.heap.objs.size a b p1.lt p2.lt), ⟨hz, hTI, ⟨_, _, hTO⟩, h1, h2⟩, fun c hcm => ?_, q⟩
      have e' : c = s2.heap.objs.size + 4 ∨ c = s2.heap.objs.size + 2 ∨ c = s2.heap.objs.size + 3 ∨ c = s2.heap.objs.size ∨ c = s2.heap.objs.size + 1 := by simpa using hcm
      have hle : s2.heap.objs.size ≤ c := by
        rcases e' with z | z | z | z | z
        · rw [z]; exact Nat.le_add_right _ _
        · rw [z]; exact Nat.le_add_right _ _
        · rw [z]; exact Nat.le_add_right _ _
        · rw [z]; exact Nat.le_refl _
        · rw [z]; exact Nat.le_add_right _ _
      exact I2.fpOk hle (I2.hok.fresh hle)
end MP
end
section
set_option maxRecDepth 100000
set_option maxHeartbeats 4000000
namespace MP
open PySem L2
variable [Glo]
section
variable {C : Nat → Addr} {W : WX} {c : Cxt} {X : Cx} {F : Fr} {H : Hp}
theorem pi_zipSF {e f : Ex} {x y k : Expr} {p pos tpos kp : Pos} {elts : List Expr} {kk : Nat} (hg : Gl X "zip") (hm : X.mg "zip" = none) (hk : PE X k (fun σ H Q => Q (.bl true) H)) (hst : starEach [x, y] X.env = (false, eval x X.env) :: starEach [y] X.env) (hpl : (backTo pos (starEach [y] X.env)).any (·.1) = false) (h : PA X [x, y] (evsT C W c (.cons e (.cons f .nil)))) :
    PI X (.Tuple elts kk tpos) (.Call (.Name "zip" p) [x, y] [⟨some (Str.ofString "strict"), k, kp⟩] pos) (evwT C W c (.zip true e f)) := by
  refine ⟨fun pins s σ H Rr I ⟨F, ρ, hs, hl, w⟩ => (pi_zipS hg hm h hk hst hpl).run pins s σ H Rr I ?_⟩
  rw [evw] at w
  refine args2 hs hl w fun F1 H1 d1 d2 v1 v2 x1 s1 r1 r2 q1 => ?_
  cases d1 with
  | lst ds =>
    cases d2 with
    | lst es =>
      have q1 : Aft WR C _ F1 H1 (if ds.length = es.length then R.ok { its := (ds.zip es).map fun p => D.tup [p.1, p.2] } F1.st else .bad) _ := q1
      split at q1
      · rename_i hlen
        obtain ⟨a, vs, ea, hu, ha, rs⟩ := r1
        obtain ⟨b, us, eb, hu2, hb, rt⟩ := r2
        refine ⟨a, b, vs, us, by rw [ea, eb], SqL.of ha, SqL.of hb, q1 F1 H1 _ rfl (Ext.refl F1 H1) s1 fun F' H' x s st => ?_⟩
        have ha' := x.stay ha hu
        have hb' := x.stay hb hu2
        have rs' := rs.ext x
        have rt' := rt.ext x
        refine ⟨fun i d hd => ?_, vs, us, .inl (.inl ha'), .inl (.inl hb'), ?_, ?_⟩
        · have hd : ((ds.zip es).map fun p => D.tup [p.1, p.2])[i]? = some d := hd
          rw [List.getElem?_map] at hd
          cases q : (ds.zip es)[i]? with
          | none => rw [q] at hd; cases hd
          | some z =>
            rw [q] at hd
            cases hd
            rw [List.getElem?_zip_eq_some] at q
            obtain ⟨v, e, r⟩ := rs'.get q.1
            obtain ⟨u, e', r'⟩ := rt'.get q.2
            refine ⟨⟨vs, us, v, u, .inl (.inl ha'), .inl (.inl hb'), e, e'⟩, fun y H'' ⟨T, y1, y2, e1, hT, e2, e3, e4⟩ => ?_⟩
            subst e1 e2
            have q1 := e3 vs (.inl (.inl ha'))
            rw [e] at q1
            cases q1
            have q2 := e4 us (.inl (.inl hb'))
            rw [e'] at q2
            cases q2
            exact ⟨Ext.fresh _ _ hT, s.fresh _ hT, Rep.newT s hT ⟨v, [u], rfl, r, u, [], rfl, r', rfl⟩⟩
        · show vs.length ≤ ((ds.zip es).map fun p => D.tup [p.1, p.2]).length
          rw [List.length_map, List.length_zip, ← hlen, rs'.length]
          omega
        · show us.length ≤ ((ds.zip es).map fun p => D.tup [p.1, p.2]).length
          rw [List.length_map, List.length_zip, hlen, rt'.length]
          omega
      · exact q1.elim
    | _ => exact q1.elim
  | tup ds =>
    cases d2 with
    | tup es => exact q1.elim
    | _ => exact q1.elim
  | _ => exact q1.elim
end
end MP
end
section
set_option maxRecDepth 100000
set_option maxHeartbeats 4000000
/-! MPSnd9: list comprehensions. -/
namespace MP
open PySem L2
variable [Glo]
def WF : WX := fun _ _ _ _ => False
def evtT (C : Nat → Addr) (W : WX) (c : Cxt) (o : Ox) : TT := fun σ H Q => ∃ F ρ, Sto F H ∧ Slo F H ρ σ ∧ Aft Eqr C (fun cl d H' => W cl d σ H') F H (evt c o ρ F.st) fun _ H' _ b => Q b H'
section
variable {C : Nat → Addr} {W : WX} {c : Cxt} {X : Cx}
theorem pts_non : PTs X [] (evtT C W c .non) := ⟨fun pins s σ H Q I ⟨F, ρ, hs, hl, w⟩ => pts_nil.run pins s σ H Q I (by
  rw [evt] at w
  exact w.ok_now hs rfl)⟩
theorem pts_som {e : Ex} {x : Expr} (h : PT X x (evTT C W c e)) : PTs X [x] (evtT C W c (.som e)) := ⟨fun pins s σ H Q I ⟨F, ρ, hs, hl, w⟩ => (pts_one h).run pins s σ H Q I (by
  rw [evt] at w
  exact ⟨F, ρ, hs, hl, w⟩)⟩
/-- where exceptions are not looked for -/
theorem Aft.noX {α β : Type} {Rel : Fr → Hp → α → β → Prop} {We We' : Value → Option Addr → Hp → Prop} {F : Fr} {H : Hp} {r : R α} {Q : Fr → Hp → α → β → Prop} (h : Aft Rel C We F H r Q) (hr : ∀ k d st, r ≠ .exc k d st) : Aft Rel C We' F H r Q := by
  cases r with
  | ok a st => exact h
  | exc k d st => exact absurd rfl (hr k d st)
  | bad => exact h
theorem lcGo_nil {w : Walk} {f : D → Store → R (Option D)} {acc ys : List D} {st st' : Store} (h : lcGo w f [] acc st = .ok ys st') : still w st = true ∧ ys = acc ∧ st' = st := by
  unfold lcGo at h
  split at h
  · cases h; exact ⟨by assumption, rfl, rfl⟩
  · cases h
theorem lcGo_cons {w : Walk} {f : D → Store → R (Option D)} {d : D} {ds acc ys : List D} {st st' : Store} (h : lcGo w f (d :: ds) acc st = .ok ys st') : still w st = true ∧
    ((f d st).bind fun o st => match o with
      | some y => if acc.length < line then lcGo w f ds (acc ++ [y]) st else .bad
      | none => lcGo w f ds acc st) = .ok ys st' := by
  rw [lcGo] at h
  split at h
  · exact ⟨by assumption, h⟩
  · cases h
/-- one turn -/
def turnF (c : Cxt) (x : Ex) (tg : List Nat) (tp : Bool) (i : Ox) (own : List Nat) (ρ : Sl) (d : D) (st : Store) : R (Option D) := match asgT tg tp d (MP.wipe ρ own) with
      | none => .bad
      | some ρ1 => (evt c i ρ1 st).bind fun b st => if b then (ev c x ρ1 st).bind fun y st => .ok (some y) st else .ok none st
theorem bind_ok_inv {α β : Type} {r : R α} {f : α → Store → R β} {b : β} {st' : Store} (h : r.bind f = .ok b st') : ∃ a st, r = .ok a st ∧ f a st = .ok b st' := by
  cases r with
  | ok a st => exact ⟨a, st, rfl, h⟩
  | exc k d st => cases h
  | bad => cases h
theorem tLc_by {x : Ex} {tg : List Nat} {tp : Bool} {s : Sr} {i : Ox} {own : List Nat} {F : Fr} {ρ : Sl} {σ : L2.St} {H : Hp} {Q : VK} (htg : ∀ j ∈ tg, j ∈ own) (hs : Sto F H) (hl : Slo F H ρ σ)
    (h : Aft WR C (fun cl d H' => W cl d σ H') F H (evw c s ρ F.st) fun F1 H1 w _ => ∃ ys st', lcGo w (turnF c x tg tp i own ρ) w.its [] F1.st = .ok ys st' ∧
      ∀ F2 H2 D' vs, Ext F1 H1 F2 H2 → Sto F2 H2 → F2.ex D' → H1 D' = none → H2 D' = some (.lst vs) → Reps F2 H2 ys vs → F2.st = st' → Q (.ref D') H2) :
    tLc (evwT C W c s) (gF tg tp) (evtT C WF c i) (evT C WF c x) own σ H Q := by
  refine ⟨F, ρ, hs, hl, h.mono fun F1 H1 wk J x1 s1 r1 q1 D' hD => ?_⟩
  have hl1 := hl.ext x1
  obtain ⟨ys, st', hr, q1⟩ := q1
  refine ⟨fun i m H => m = wk.its.length - i ∧ i ≤ wk.its.length ∧ ∃ F acc vs, Ext F1 H1 F H ∧ Sto F H ∧ F.ex D' ∧ H D' = some (.lst vs) ∧ Reps F H acc vs ∧ lcGo wk (turnF c x tg tp _ own ρ) (wk.its.drop i) acc F.st = .ok ys st', ⟨_, rfl, Nat.zero_le _, F1.add D', [], [], ?_, s1.start _ hD, .inr rfl, upd_same, rfl, hr⟩, ?_⟩
  · exact Ext.add (Ext.fresh F1 _ hD) hD
  rintro n m H ⟨rfl, hn, F, acc, vs, xe, sF, xD, hDv, rs, run⟩
  have DH : H D' ≠ none := by rw [hDv]; exact fun z => nomatch z
  by_cases hlt : n < wk.its.length
  · rw [List.drop_eq_getElem_cons hlt] at run
    obtain ⟨st1, run⟩ := lcGo_cons run
    obtain ⟨wr, _⟩ := r1 F H xe sF st1
    obtain ⟨jg, jy⟩ := wr n wk.its[n] (List.getElem?_eq_getElem hlt)
    refine .inr ⟨jg, fun H => ∃ F acc vs, Ext F1 H1 F H ∧ Sto F H ∧ F.ex D' ∧ H D' = some (.lst vs) ∧ Reps F H acc vs ∧ lcGo wk (turnF c x tg tp _ own ρ) (wk.its.drop (n + 1)) acc F.st = .ok ys st', fun H' p' => ⟨_, by omega, rfl, hlt, p'⟩, fun v H' y => ?_⟩
    obtain ⟨x2, s2, rd⟩ := jy v H' y
    obtain ⟨o, sto, eo, run⟩ := bind_ok_inv run
    unfold turnF at eo
    cases ea : asgT tg tp wk.its[n] (MP.wipe ρ own) with
    | none => rw [ea] at eo; cases eo
    | some ρ1 =>
      rw [ea] at eo
      obtain ⟨b, stb, eb, eo⟩ := bind_ok_inv eo
      have xD2 : F.ex D' := xD
      have hD2 : H' D' = some (.lst vs) := x2.keep _ _ hDv (fun _ z => nomatch z) fun k hk e => sF.nex k hk (by rw [e]; exact xD)
      refine ⟨F, MP.wipe ρ own, _, ρ1, s2, ((hl1.ext (xe.trans x2)).wipe own), rd, ea, fun σ1 hl2 hw => ⟨?_, ?_⟩⟩
      · have hq := hw own htg
        rw [hq]
        apply List.ext_getElem?
        intro j
        rw [wipe_get, wipe_get]
        by_cases hj : j ∈ own
        · simp only [if_pos hj]
          cases σ[j]? <;> rfl
        · simp only [if_neg hj]
      · refine ⟨F, ρ1, s2, hl2, ?_⟩
        rw [eb]
        intro F3 H3 b' est x3 s3 ebb
        have ebb : b = b' := ebb
        subst ebb
        have xD3 : F3.ex D' := (x3.ex D' (by rw [hD2]; exact fun z => nomatch z)).mpr xD2
        have hD3 : H3 D' = some (.lst vs) := x3.keep _ _ hD2 (fun _ z => nomatch z) fun k hk e => s2.nex k hk (by rw [e]; exact xD2)
        have rs3 := (rs.ext x2).ext x3
        have xx3 := (xe.trans x2).trans x3
        cases b with
        | false =>
          rw [if_neg Bool.false_ne_true] at eo
          cases eo
          rw [← est] at run
          simp only [Bool.false_eq_true, if_false]
          exact ⟨F3, acc, vs, xx3, s3, xD3, hD3, rs3, run⟩
        | true =>
          rw [if_pos rfl] at eo
          simp only [if_true]
          obtain ⟨y, sty, ey, eo⟩ := bind_ok_inv eo
          cases eo
          have run : (if acc.length < line then lcGo wk (turnF c x tg tp i own ρ) (wk.its.drop (n + 1)) (acc ++ [y]) sto else R.bad) = .ok ys st' := run
          split at run
          · rename_i hlen
            refine ⟨F3, ρ1, s3, hl2.ext x3, ?_⟩
            rw [est, ey]
            intro F4 H4 v4 est4 x4 s4 r4
            have xD4 : F4.ex D' := (x4.ex D' (by rw [hD3]; exact fun z => nomatch z)).mpr xD3
            have hD4 : H4 D' = some (.lst vs) := x4.keep _ _ hD3 (fun _ z => nomatch z) fun k hk e => s3.nex k hk (by rw [e]; exact xD3)
            have rs4 := rs3.ext x4
            obtain ⟨o1, o2, _⟩ := Rep.other (F := F4) (H := H4) (D' := D') (o := .lst (vs ++ [v4])) (.inl xD4)
            refine ⟨vs, hD4, by rw [← rs4.length, ← line_eq]; exact hlen, F4, acc ++ [y], vs ++ [v4], (xx3.trans x4).other hD, s4.other xD4 hD4, xD4, upd_same, (o2 _ _ rs4).append (Reps.one (o1 _ _ r4)), ?_⟩
            rw [est4]
            exact run
          · cases run
  · have e : n = wk.its.length := by omega
    subst e
    rw [List.drop_length] at run
    obtain ⟨st1, ey, est⟩ := lcGo_nil run
    subst ey
    obtain ⟨_, js⟩ := r1 F H xe sF st1
    exact .inl ⟨js, q1 F H D' vs xe sF xD hD hDv rs est.symm⟩
theorem tLc_of {x : Ex} {tg : List Nat} {tp : Bool} {s : Sr} {i : Ox} {own : List Nat} {σ : L2.St} {H : Hp} {Q : VK} (htg : ∀ j ∈ tg, j ∈ own) (h : evT C W c (.lc x tg tp s i own) σ H Q) :
    tLc (evwT C W c s) (gF tg tp) (evtT C WF c i) (evT C WF c x) own σ H Q := by
  obtain ⟨F, ρ, hs, hl, w⟩ := h
  rw [ev] at w
  refine tLc_by htg hs hl ((Aft.bind w).mono fun F1 H1 wk J x1 s1 r1 q1 => ?_)
  have q1 : Aft Rep C _ F1 H1 ((noExc (lcGo wk (turnF c x tg tp i own ρ) wk.its [] F1.st)).bind fun ys st => R.ok (.lst ys) st) (fun _ H' _ v => Q v H') := q1
  cases hr : lcGo wk (turnF c x tg tp i own ρ) wk.its [] F1.st with
  | exc k d st => rw [hr] at q1; exact q1.elim
  | bad => rw [hr] at q1; exact q1.elim
  | ok ys st' =>
    rw [hr] at q1
    have q1 : ∀ F' H' b, F'.st = st' → Ext F1 H1 F' H' → Sto F' H' → Rep F' H' (.lst ys) b → Q b H' := q1
    refine ⟨ys, st', rfl, fun F2 H2 D' vs xe sF xD hD hDv rs est => q1 (F2.rem D') H2 _ est (xe.rem hD) sF.rem ⟨D', vs, rfl, ?_, hDv, ?_⟩⟩
    · rintro (z | ⟨k, hk, e⟩)
      · exact z.2 rfl
      · exact sF.nex k hk (by rw [show F2.al k = D' from e]; exact xD)
    · exact (Rep.less (F := F2) (G := F2.rem D') (H := H2) (fun _ _ => rfl) (Nat.le_refl _) fun a h => h.elim (fun z => .inl z.1) .inr).2.1 _ _ rs
end
end MP
end
section
set_option maxRecDepth 100000
set_option maxHeartbeats 4000000
/-! MPSnd10: defs that keep their promise where no repr is under way; their calls; the context. -/
namespace MP
open PySem L2
variable [Glo]
/-- the promise of a def, kept wherever no repr of a list is under way -/
structure FnG (P : Program) (w : World) (K : PySem.W.Frag) (mg : Str → Option Value) (base : Heap) (n : Nat) (f : Addr) (fd : FuncData) (ps : List Str) (sp : Sp) : Prop where
  wide : ∀ xs H Q E, sp xs H Q E → xs.length = ps.length
  goes : ∀ (A : Around) (up : List Env) (s : Shared) (H : Hp) (args : Args) (us : List Value) (xs : List V) (Q : VK) (E : XK), A.guards = some [] → Room n A → Env0 P w K mg base A up s H →
    BindsTo s fd args (ps.zip us) → Vals xs us → sp xs H Q E → codeAny (model P w) A (.call (.ref f) args) (CR (L2.CX P w) up P w H s Q E) s
theorem FnG.mono {P : Program} {w : World} {K : PySem.W.Frag} {mg : Str → Option Value} {base : Heap} {m n : Nat} {f : Addr} {fd : FuncData} {ps : List Str} {sp : Sp} (F : FnG P w K mg base m f fd ps sp) (h : m ≤ n) : FnG P w K mg base n f fd ps sp :=
  ⟨F.wide, fun A up s H args us xs Q E g r => F.goes A up s H args us xs Q E g (r.mono h)⟩
/-- a call that binds the values zs -/
theorem run_g {X : Cx} {n : Nat} {f : Addr} {fd : FuncData} {ps : List Str} {sp : Sp} {W : WX} {pins : List (Addr × Obj)} {σ : L2.St} {H : Hp} {s : Shared} {Q : VK} {us zs : List Value} {kw : List (Str × Value)} {xs : List V} (F : FnG X.prog X.w X.K X.mg X.base n f fd ps sp) (hg : X.A.guards = some []) (hr : Room n X.A)
    (hx : PassesAt (L2.CX X.prog X.w) X σ (WE W σ)) (I : L2.Inv X pins σ H s) (hb : BindsTo s fd ⟨us, kw⟩ (ps.zip zs)) (r : Vals xs zs) (h : sp xs H Q (WE W σ)) : wpAny (model X.prog X.w) X.A (call (.ref f) us kw) (EP X pins σ Q) X.xe s := by
  refine wpAny_call (codeAny_mono (F.goes X.A X.stack s H ⟨us, kw⟩ zs xs Q (WE W σ) hg hr I.env0 hb r h) fun out s2 z => ?_)
  rcases out with e | fl
  · exact hx pins H s e s2 I z
  · cases fl with
    | ret u => exact I.after z
    | _ => exact z.elim
section
variable {X : Cx} {n : Nat} {f : Addr} {fd : FuncData} {ps : List Str} {sp : Sp} {W : WX} {x : Str} {p pos : Pos} {e : Expr} {es : List Expr} {t tk : TA} {kws : List Keyword}
theorem pe_calG (F : FnG X.prog X.w X.K X.mg X.base n f fd ps sp) (hgd : X.A.guards = some []) (hr : Room n X.A) (hx : ∀ σ, PassesAt (L2.CX X.prog X.w) X σ (WE W σ)) (hg : Gl X x) (hm : X.mg x = some (.ref f)) (hk : PySem.W.keepIn X.K (.ref f) = true) (hb : Binds X.K fd ps [])
    (ha : PA X (e :: es) t) (hd : (x == ("__debug__" : Str)) = false) (hs : noStars (e :: es) = true) : PE X (.Call (.Name x p) (e :: es) [] pos) (fun σ H Q => t σ H fun vs H1 => sp vs H1 Q (WE W σ)) := by
  have h1 : isStar e = false ∧ noStars es = true := by
    unfold noStars at hs ⊢
    rw [List.all_cons, Bool.and_eq_true, Bool.not_eq_true'] at hs
    exact hs
  refine ⟨fun pins s σ H Q I q => wpAny_Call_Name_kw (ld_glob I hg hm ?_ hd)⟩
  refine PySem.W.callWith_K (h₀ := X.base) I.ok.mod.kin hk ?_ (star_cons h1.1) (stars_any h1.2)
  refine thn (ha.run pos pins s σ H _ I q) fun us s1 ⟨vs, H1, I1, r, q1⟩ => ⟨I1.kIn, ?_⟩
  have hl : (us ++ []).length = ps.length := by rw [List.append_nil, ← r.length]; exact F.wide _ _ _ _ q1
  have b := hb s1 us I1.kIn hl
  rw [List.append_nil] at b
  exact run_g F hgd hr (hx σ) I1 b r q1
/-- of a slot that holds the def -/
theorem pe_cavG {i : Nat} (hN : X.N[i]? = some x) (hv : Vis X.env.scope x) (hgd : X.A.guards = some []) (hr : Room n X.A) (hx : ∀ σ, PassesAt (L2.CX X.prog X.w) X σ (WE W σ)) (ha : PA X (e :: es) t) (hd : (x == ("__debug__" : Str)) = false) (hc : (x == ("__classdict__" : Str)) = false) (hs : noStars (e :: es) = true) :
    PE X (.Call (.Name x p) (e :: es) [] pos) (fun σ H Q => ∃ f fd ps sp, σ[i]? = some (some (.ref f)) ∧ FnG X.prog X.w X.K X.mg X.base n f fd ps sp ∧ PySem.W.keepIn X.K (.ref f) = true ∧ Binds X.K fd ps [] ∧ t σ H fun vs H1 => sp vs H1 Q (WE W σ)) := by
  have h1 : isStar e = false ∧ noStars es = true := by
    unfold noStars at hs ⊢
    rw [List.all_cons, Bool.and_eq_true, Bool.not_eq_true'] at hs
    exact hs
  refine ⟨fun pins s σ H Q I ⟨f, fd, ps, sp, hσ, F, hk, hb, q⟩ => wpAny_Call_Name_kw (thn ((pe_var (pos := p) hN hv hd hc).run pins s σ H (fun v H1 => v = .ref f ∧ H1 = H) I ⟨_, hσ, rfl, rfl⟩) fun u s0 ⟨v, H0, I0, r0, e1, e2⟩ => ?_)⟩
  subst e1 e2
  cases r0
  refine PySem.W.callWith_K (h₀ := X.base) I.ok.mod.kin hk ?_ (star_cons h1.1) (stars_any h1.2)
  refine thn (ha.run pos pins s0 σ _ _ I0 q) fun us s1 ⟨vs, H1, I1, r, q1⟩ => ⟨I1.kIn, ?_⟩
  have hl : (us ++ []).length = ps.length := by rw [List.append_nil, ← r.length]; exact F.wide _ _ _ _ q1
  have b := hb s1 us I1.kIn hl
  rw [List.append_nil] at b
  exact run_g F hgd hr (hx σ) I1 b r q1
/-! ### keywords -/
theorem pick_map {α β : Type} {Rr : α → β → Prop} : ∀ {ix : List Nat} {xs : List α} {us : List β} {ys : List α}, Paired Rr xs us → pick ix xs = some ys → ∃ ws, pick ix us = some ws ∧ Paired Rr ys ws
  | [], _, _, _, _, h => by
    cases h
    exact ⟨[], rfl, .nil⟩
  | i :: ix, xs, us, ys, r, h => by
    have h : ((xs[i]?).bind fun d => (pick ix xs).map fun rs => d :: rs) = some ys := h
    have gt : ∀ {xs : List α} {us : List β} {i : Nat} {x : α}, Paired Rr xs us → xs[i]? = some x → ∃ u, us[i]? = some u ∧ Rr x u := by
      intro xs us i x r
      induction r generalizing i with
      | nil => intro h; simp at h
      | cons a _ ih =>
        intro h
        cases i with
        | zero => simp at h; subst h; exact ⟨_, rfl, a⟩
        | succ i => simp at h; simpa using ih h
    cases e : xs[i]? with
    | none => rw [e] at h; cases h
    | some x =>
      rw [e] at h
      cases q : pick ix xs with
      | none => rw [q] at h; cases h
      | some zs =>
        rw [q] at h
        cases h
        obtain ⟨u, e1, e2⟩ := gt r e
        obtain ⟨ws, e3, e4⟩ := pick_map r q
        refine ⟨u :: ws, ?_, .cons e2 e4⟩
        show ((us[i]?).bind fun d => (pick ix us).map fun rs => d :: rs) = _
        rw [e1, e3]
        rfl
/-- how a call with keywords binds -/
def KB (K : PySem.W.Frag) (fd : FuncData) (ps : List Str) (n : Nat) (ks : List Str) (ix : List Nat) : Prop :=
  ∀ (s : Shared) (us ws zs : List Value), K.In s.heap → us.length = n → ws.length = ks.length → pick ix (us ++ ws) = some zs → BindsTo s fd ⟨us, ks.zip ws⟩ (ps.zip zs)
theorem kw_all {env : Env} (h : kws.all (fun k => k.arg.isSome) = true) : (backToKw pos (keywordEach kws env)).all (·.1.isSome) = true ∧ (backToKw pos (keywordEach kws env)).any (·.1.isNone) = false ∧ (backToKw pos (keywordEach kws env)).filterMap (·.1) = kws.filterMap (·.arg) := by
  induction kws with
  | nil => exact ⟨rfl, rfl, rfl⟩
  | cons k r ih =>
    obtain ⟨a, v, q⟩ := k
    rw [List.all_cons, Bool.and_eq_true] at h
    obtain ⟨i1, i2, i3⟩ := ih h.2
    cases a with
    | none => cases h.1
    | some a =>
      refine ⟨?_, ?_, ?_⟩
      · show (true && (backToKw pos (keywordEach r env)).all (·.1.isSome)) = true
        rw [i1]
        rfl
      · show (false || (backToKw pos (keywordEach r env)).any (·.1.isNone)) = false
        rw [i2]
        rfl
      · show a :: (backToKw pos (keywordEach r env)).filterMap (·.1) = a :: r.filterMap (·.arg)
        rw [i3]
theorem pe_cakG {ix : List Nat} (F : FnG X.prog X.w X.K X.mg X.base n f fd ps sp) (hgd : X.A.guards = some []) (hr : Room n X.A) (hx : ∀ σ, PassesAt (L2.CX X.prog X.w) X σ (WE W σ)) (hg : Gl X x) (hm : X.mg x = some (.ref f)) (hk : PySem.W.keepIn X.K (.ref f) = true)
    (hb : KB X.K fd ps es.length (kws.filterMap (·.arg)) ix) (ha : PA X es t) (hkw : PK X kws tk) (hlen : ∀ σ H Q, t σ H Q → t σ H fun vs H1 => vs.length = es.length ∧ Q vs H1) (hlek : ∀ σ H Q, tk σ H Q → tk σ H fun vs H1 => vs.length = (kws.filterMap (·.arg)).length ∧ Q vs H1)
    (hnil : es = [] → ∀ σ H Q, t σ H Q → Q [] H) (hall : kws.all (fun k => k.arg.isSome) = true) (hd : (x == ("__debug__" : Str)) = false) (hs : noStars es = true) :
    PE X (.Call (.Name x p) es kws pos) (fun σ H Q => t σ H fun vs H1 => tk σ H1 fun zs H2 => ∃ ys, pick ix (vs ++ zs) = some ys ∧ sp ys H2 Q (WE W σ)) := by
  refine ⟨fun pins s σ H Q I q => wpAny_Call_Name_kw (ld_glob I hg hm ?_ hd)⟩
  obtain ⟨k1, k2, k3⟩ := kw_all (pos := pos) (env := X.env) hall
  have fin : ∀ (us : List Value) (s1 : Shared) (vs : List V) (H1 : Hp), L2.Inv X pins σ H1 s1 → Vals vs us → vs.length = es.length → (tk σ H1 fun zs H2 => ∃ ys, pick ix (vs ++ zs) = some ys ∧ sp ys H2 Q (WE W σ)) →
      wpAny (model X.prog X.w) X.A (evalAll ((backToKw pos (keywordEach kws X.env)).map (·.2))) (fun ks s2 => X.K.In s2.heap ∧ wpAny (model X.prog X.w) X.A (call (.ref f) us (((backToKw pos (keywordEach kws X.env)).filterMap (·.1)).zip ks)) (EP X pins σ Q) X.xe s2) X.xe s1 := by
    intro us s1 vs H1 I1 r l1 q1
    refine thn (hkw.run pos pins s1 σ H1 _ I1 (hlek _ _ _ q1)) fun ws s2 ⟨zs, H2, I2, rz, l2, ys, py, q2⟩ => ⟨I2.kIn, ?_⟩
    obtain ⟨us2, pu, ru⟩ := pick_map (r.append rz) py
    rw [k3]
    exact run_g F hgd hr (hx σ) I2 (hb s2 us ws us2 I2.kIn (r.length.symm.trans l1) (rz.length.symm.trans l2) pu) ru q2
  cases es with
  | nil =>
    refine PySem.W.callWith_KW0 (h₀ := X.base) I.ok.mod.kin hk k1 ?_ (by rw [k2]; rfl)
    exact fin [] s [] H I .nil rfl (hnil rfl _ _ _ q)
  | cons e es =>
    have h1 : isStar e = false ∧ noStars es = true := by
      unfold noStars at hs ⊢
      rw [List.all_cons, Bool.and_eq_true, Bool.not_eq_true'] at hs
      exact hs
    refine PySem.W.callWith_KW (h₀ := X.base) I.ok.mod.kin hk k1 ?_ (by rw [k2, stars_any hs]; rfl) (star_cons h1.1)
    exact thn (ha.run pos pins s σ H _ I (hlen _ _ _ q)) fun us s1 ⟨vs, H1, I1, r, l1, q1⟩ => fin us s1 vs H1 I1 r l1 q1
/-! ### the context -/
/-- what an exception's class of the module has -/
structure ExF (K : PySem.W.Frag) (C : Addr) : Prop where
  cls : (PySem.W.clsIn K C).isSome = true
  ga : PySem.W.findIn K (.ref C) "__getattribute__" = some (some (.builtin "BaseException.__getattribute__"))
  gt : PySem.W.findIn K (.ref C) "__getattr__" = some none
  sub : PySem.W.subIn K (.ref C) (.type "BaseException") = some true
  cl : PySem.W.findIn K (.ref C) "__class__" = some (some (.builtin "object.__class__"))
  ob : PySem.W.mroIn K C (.type "object") = some true
  dct : PySem.W.hasDictIn K C = true
  val : PySem.W.findIn K (.ref C) "value" = some none
  ver : PySem.W.kitOne K (.ref C) (.type "ValueError") = some true

/-- a lambda called, n calls deep -/
def LamG (P : Program) (w : World) (K : PySem.W.Frag) (mg : Str → Option Value) (base : Heap) (C : Nat → Addr) (c : Cxt) (n : Nat) : Prop :=
  ∀ (j : Nat) (A : Around) (up : List Env) (s : Shared) (H : Hp) (F : Fr) (ds xs : List D) (f : Addr) (vs : List V) (us : List Value) (Q : VK) (E : XK), A.guards = some [] → Room n A → Env0 P w K mg base A up s H → Sto F H → F.st = [] →
    Rep F H (.clo j ds) (.ref f) → bareDs ds = true → xs = [] → Reps F H xs vs → Vals vs us → Aft Rep C (fun cl d H' => E cl d H') F H (bareR (c.cal (c.nf + j) (ds ++ xs) []) []) (fun _ H' _ v => Q v H') →
    codeAny (model P w) A (.call (.ref f) ⟨us, []⟩) (CR (L2.CX P w) up P w H s Q E) s
/-- what a body's context holds -/
structure GX (T : Tab) (C : Nat → Addr) (W : WX) (c : Cxt) (n : Nat) (se : SE) (X : Cx) : Prop where
  N : X.N = se.N
  nd : se.N.Nodup
  sc : X.env.scope = se.sc
  fn : ∀ x, se.fn x = true → X.fn x = true
  calm : X.calm = true
  gd : X.A.guards = some []
  room : Room n X.A
  bl : ∀ x, x ∈ bnames → X.mg x = none
  con : ∀ (g : Nat) (x : Str) (d : D), T.con[g]? = some x → c.con g = some d → ∃ u v, X.mg x = some u ∧ RelV v u ∧ ∀ F H, Rep F H d v
  nf : c.nf = T.fns.length
  fns : ∀ (f : Nat) (x : Str), T.fns[f]? = some x → X.mg x = some (.ref (Glo.fn f)) ∧ PySem.W.keepIn X.K (.ref (Glo.fn f)) = true ∧ ∃ fd ps, FnG X.prog X.w X.K X.mg X.base n (Glo.fn f) fd ps (spF C c f) ∧ Binds X.K fd ps [] ∧ ∀ m ks ix, (f, m, ks, ix) ∈ T.kws → KB X.K fd ps m ks ix
  nx : Glo.nx = T.exc.length
  exc : ∀ (g : Nat) (x : Str), T.exc[g]? = some x → X.mg x = some (.ref (Glo.cl g)) ∧ C g = Glo.cl g ∧ ExF X.K (Glo.cl g)
  exk : ∀ g k, g < T.exc.length → k < T.exc.length → PySem.W.kitOne X.K (.ref (Glo.cl g)) (.ref (Glo.cl k)) = some (decide (g = k) || decide (k = 0))
  sp : PySem.W.specialIn X.K (.builtin "object.__class__") "__get__" = some (some (.builtin "getset_descriptor.__get__")) ∧ PySem.W.takesIn X.K (.builtin "object.__class__") = some true
  ps : ∀ σ, PassesAt (L2.CX X.prog X.w) X σ (WE W σ)
  lam : LamG X.prog X.w X.K X.mg X.base C c n
  lkT : ∀ j ps b sc, T.lk j ps b sc = true → Glo.lk j ps b sc = true ∧ Glo.ln j = T.ln j
  mkf : se.ml = true → ∃ c0 P0 : Addr, X.env.code = .ref c0 ∧ LamX.TabB X.base X.mg c0 P0 ∧ (P0, X.env.qual ++ "<lambda>") ∈ Glo.tabs ∧ ∀ p ∈ Glo.tabs, p.1 = P0 → p.2 = X.env.qual ++ "<lambda>"
end
end MP
end
section
set_option maxRecDepth 100000
set_option maxHeartbeats 4000000
/-! MPSnd11: names, constants, calls. -/
namespace MP
open PySem L2
variable [Glo]
section
variable {T : Tab} {C : Nat → Addr} {W : WX} {c : Cxt} {n : Nat} {se : SE} {X : Cx}
theorem pe_nmF (G : GX T C W c n se X) {i : Nat} {x : Str} {p : Pos} (h1 : se.N[i]? = some x) (h2 : visB se.sc x = true) (h3 : okNm x = true) : PE X (.Name x p) (evT C W c (.nm i)) := by
  obtain ⟨k1, k2, _⟩ := okNm_ok h3
  refine imp_e (pe_var (i := i) (by rw [G.N]; exact h1) (by rw [G.sc]; exact visB_ok h2) k1 k2) fun σ H Q ⟨F, ρ, hs, hl, w⟩ => ?_
  rw [ev] at w
  cases e : ρ[i]? with
  | none => rw [e] at w; exact w.elim
  | some o =>
    cases o with
    | none => rw [e] at w; exact w.elim
    | some d =>
      rw [e] at w
      obtain ⟨v, e1, r⟩ := hl.2 i d e
      exact ⟨v, e1, w.val hs r⟩
theorem pe_knF {d : D} {k : Const} {j : Nat} {p : Pos} (h : okK d k = true) : PE X (.Constant k j p) (evT C W c (.kn d)) := by
  have go : ∀ {v : V}, (∀ F H, Rep F H d v) → ∀ σ H Q, evT C W c (.kn d) σ H Q → tC v σ H Q := fun r σ H Q ⟨F, ρ, hs, hl, w⟩ => by
    rw [ev] at w
    exact w.val hs (r F H)
  cases d <;> cases k <;> first | cases h | skip
  · exact imp_e pe_non (go fun _ _ => rfl)
  · simp only [okK, beq_iff_eq] at h
    subst h
    exact imp_e pe_bl (go fun _ _ => rfl)
  · simp only [okK, decide_eq_true_eq] at h
    subst h
    exact imp_e pe_int (go fun _ _ => rfl)
  · simp only [okK, decide_eq_true_eq] at h
    subst h
    exact imp_e pe_str (go fun _ _ => rfl)
theorem pe_conF (G : GX T C W c n se X) {g : Nat} {x : Str} {p : Pos} (h1 : T.con[g]? = some x) (h2 : gloB se.sc x = true) (h3 : okNm x = true) : PE X (.Name x p) (evT C W c (.con g)) := by
  obtain ⟨k1, _, _⟩ := okNm_ok h3
  cases e : c.con g with
  | none =>
    refine ⟨fun pins s σ H Q I ⟨F, ρ, hs, hl, w⟩ => ?_⟩
    rw [ev, e] at w
    exact w.elim
  | some d =>
    obtain ⟨u, v, hm, r, rr⟩ := G.con g x d h1 e
    refine imp_e (pe_glob (gloB_ok (by rw [G.sc]; exact h2)) hm r k1) fun σ H Q ⟨F, ρ, hs, hl, w⟩ => ?_
    rw [ev, e] at w
    exact w.val hs (rr F H)
theorem pe_fnF (G : GX T C W c n se X) {f : Nat} {x : Str} {p : Pos} (h1 : T.fns[f]? = some x) (h2 : gloB se.sc x = true) (h3 : okNm x = true) : PE X (.Name x p) (evT C W c (.fn f)) := by
  obtain ⟨k1, _, _⟩ := okNm_ok h3
  obtain ⟨hm, _⟩ := G.fns f x h1
  refine imp_e (pe_glob (v := .ref (Glo.fn f)) (gloB_ok (by rw [G.sc]; exact h2)) hm rfl k1) fun σ H Q ⟨F, ρ, hs, hl, w⟩ => ?_
  rw [ev] at w
  exact w.val hs rfl
/-! ### calls -/
theorem cal_of {f : Nat} {es : Exs} {σ : L2.St} {H : Hp} {Q : VK} (h : evT C W c (.cal f es) σ H Q) : evsT C W c es σ H fun vs H1 => spF C c f vs H1 Q (WE W σ) := by
  obtain ⟨F, ρ, hs, hl, w⟩ := h
  rw [ev] at w
  exact ⟨F, ρ, hs, hl, (Aft.bind w).mono fun F1 H1 ds vs x1 s1 r1 q1 => ⟨F1, ds, s1, r1, q1⟩⟩
/-- a call that sees no cell -/
theorem pur_at {F : Fr} {H : Hp} {ds : List D} {vs : List V} {We : Value → Option Addr → Hp → Prop} {Q : VK} {r : R D} (s : Sto F H) (rs : Reps F H ds vs) (hp : freeDs ds = true)
    (h : Aft Rep C We F H (match r with
      | .ok d _ => if freeD d then .ok d F.st else .bad
      | .exc k d _ => if freeD d then .exc k d F.st else .bad
      | .bad => .bad) fun _ H' _ v => Q v H') : ∃ F0 : Fr, F0.st = [] ∧ Sto F0 H ∧ Reps F0 H ds vs ∧ Aft Rep C We F0 H r fun _ H' _ v => Q v H' := by
  have un0 : ∀ a, F.un a → H a ≠ none := fun a z => z.elim (s.ext a) fun ⟨k, hk, e⟩ => by rw [← e]; exact s.there hk
  refine ⟨⟨F.al, F.un, []⟩, rfl, ⟨fun k o e => by simp at e, fun j k hj => absurd hj.lt (Nat.not_lt_zero _), fun k hk => absurd hk.lt (Nat.not_lt_zero _), un0, s.tab, fun a z => s.nuA z⟩, repsF (fun a _ z => z.elim id fun ⟨k, hk, _⟩ => absurd hk.lt (Nat.not_lt_zero _)) ds vs hp rs, ?_⟩
  -- from the callee's frame back
  have back : ∀ {F' : Fr} {H' : Hp}, Ext ⟨F.al, F.un, []⟩ H F' H' → Sto F' H' → Ext F H F H' ∧ Sto F H' ∧ ∀ a, F.un a → F'.un a := by
    intro F' H' x s'
    have xe : Ext F H F H' := ⟨fun _ _ => rfl, fun _ _ => Iff.rfl, Nat.le_refl _, fun _ _ h => h, fun k hk h => absurd h.lt (Nat.not_lt.mpr hk), x.there, fun a o e ht _ => x.keep a o e ht fun k hk => absurd hk.lt (Nat.not_lt_zero _)⟩
    refine ⟨xe, ⟨fun k o e => ?_, s.inj, s.nex, fun a z q => s.ext a z (x.there a q), s'.tab, fun a z => s'.nuA (.inl ((x.ex a (un0 a (.inl z))).mpr (.inl z)))⟩, fun a z => .inl ((x.ex a (un0 a z)).mpr z)⟩
    have q := s.ce k o e
    have st : ∀ u, H (F.al k) = some u → (∀ ps, u ≠ .tbl ps) → H' (F.al k) = some u := fun u eu ht => x.keep _ _ eu ht fun k hk => absurd hk.lt (Nat.not_lt_zero _)
    cases o with
    | lst ds =>
      obtain ⟨vs, q1, r⟩ := q
      exact ⟨vs, st _ q1 (fun _ z => nomatch z), r.ext xe⟩
    | dic ds =>
      obtain ⟨vs, q1, r⟩ := q
      exact ⟨vs, st _ q1 (fun _ z => nomatch z), r.ext xe⟩
    | gone => trivial
  cases r with
  | bad => exact h
  | ok d st =>
    intro F' H' b est x s' rb
    by_cases hd : freeD d = true
    · have h : Aft Rep C We F H (if freeD d then .ok d F.st else .bad) fun _ H' _ v => Q v H' := h
      rw [if_pos hd] at h
      obtain ⟨xe, sf, hu⟩ := back x s'
      exact h F H' b rfl xe sf (repF (fun a _ z => hu a z) d b hd rb)
    · have h : Aft Rep C We F H (if freeD d then .ok d F.st else .bad) fun _ H' _ v => Q v H' := h
      rw [if_neg hd] at h
      exact h.elim
  | exc k d st =>
    intro F' H' dx v est x s' hx hux hnx rb
    by_cases hd : freeD d = true
    · have h : Aft Rep C We F H (if freeD d then .exc k d F.st else .bad) fun _ H' _ v => Q v H' := h
      rw [if_pos hd] at h
      obtain ⟨xe, sf, hu⟩ := back x s'
      exact h F H' dx v rfl xe sf hx (fun z => hux (hu dx z)) hnx (repF (fun a _ z => hu a z) d v hd rb)
    · have h : Aft Rep C We F H (if freeD d then .exc k d F.st else .bad) fun _ H' _ v => Q v H' := h
      rw [if_neg hd] at h
      exact h.elim
theorem pur_of {f : Nat} {es : Exs} {σ : L2.St} {H : Hp} {Q : VK} (h : evT C W c (.pur f es) σ H Q) : evsT C W c es σ H fun vs H1 => spF C c f vs H1 Q (WE W σ) := by
  obtain ⟨F, ρ, hs, hl, w⟩ := h
  rw [ev] at w
  refine ⟨F, ρ, hs, hl, (Aft.bind w).mono fun F1 H1 ds vs x1 s1 r1 q1 => ?_⟩
  split at q1
  · rename_i hp
    obtain ⟨F0, e0, s0, rr, q⟩ := pur_at s1 r1 hp q1
    refine ⟨F0, ds, s0, rr, ?_⟩
    rw [e0]
    exact q
  · exact q1.elim
theorem pe_calF (G : GX T C W c n se X) {f : Nat} {es : Exs} {x : Str} {xs : List Expr} {p pos : Pos} {t : TE} (h1 : T.fns[f]? = some x) (h2 : gloB se.sc x = true) (h3 : okNm x = true) (ha : PA X xs (evsT C W c es)) (hs : noStars xs = true) (hn : xs.isEmpty = false)
    (ht : ∀ σ H Q, t σ H Q → evsT C W c es σ H fun vs H1 => spF C c f vs H1 Q (WE W σ)) : PE X (.Call (.Name x p) xs [] pos) t := by
  obtain ⟨k1, _, _⟩ := okNm_ok h3
  obtain ⟨hm, hk, fd, ps, F, hb, _⟩ := G.fns f x h1
  cases xs with
  | nil => cases hn
  | cons e es' => exact imp_e (pe_calG F G.gd G.room G.ps (gloB_ok (by rw [G.sc]; exact h2)) hm hk hb ha k1 hs) ht
theorem cav_of (G : GX T C W c n se X) {i : Nat} {es : Exs} {σ : L2.St} {H : Hp} {Q : VK} (h : evT C W c (.cav i es) σ H Q) :
    ∃ f fd ps sp, σ[i]? = some (some (.ref f)) ∧ FnG X.prog X.w X.K X.mg X.base n f fd ps sp ∧ PySem.W.keepIn X.K (.ref f) = true ∧ Binds X.K fd ps [] ∧ evsT C W c es σ H fun vs H1 => sp vs H1 Q (WE W σ) := by
  obtain ⟨F, ρ, hs, hl, w⟩ := h
  rw [ev] at w
  split at w
  · rename_i f e
    obtain ⟨v, e1, r⟩ := hl.2 i _ e
    have r : v = .ref (Glo.fn f) := r
    subst r
    by_cases hf : f < c.nf
    · rw [if_pos hf] at w
      rw [G.nf] at hf
      obtain ⟨hm, hk, fd, ps, Fn, hb, _⟩ := G.fns f _ (List.getElem?_eq_getElem hf)
      exact ⟨_, fd, ps, _, e1, Fn, hk, hb, F, ρ, hs, hl, (Aft.bind w).mono fun F1 H1 ds vs x1 s1 r1 q1 => ⟨F1, ds, s1, r1, q1⟩⟩
    · rw [if_neg hf] at w
      exact w.elim
  · exact w.elim
theorem pe_cavF (G : GX T C W c n se X) {i : Nat} {es : Exs} {x : Str} {xs : List Expr} {p pos : Pos} (h1 : se.N[i]? = some x) (h2 : visB se.sc x = true) (h3 : okNm x = true) (ha : PA X xs (evsT C W c es)) (hs : noStars xs = true) (hn : xs.isEmpty = false) :
    PE X (.Call (.Name x p) xs [] pos) (evT C W c (.cav i es)) := by
  obtain ⟨k1, k2, _⟩ := okNm_ok h3
  cases xs with
  | nil => cases hn
  | cons e es' => exact imp_e (pe_cavG (by rw [G.N]; exact h1) (by rw [G.sc]; exact visB_ok h2) G.gd G.room G.ps ha k1 k2 hs) fun σ H Q w => cav_of G w
/-! ### keywords -/
theorem Reps.pick {F : Fr} {H : Hp} : ∀ {ix : List Nat} {ds rs : List D} {vs : List V}, Reps F H ds vs → MP.pick ix ds = some rs → ∃ us, MP.pick ix vs = some us ∧ Reps F H rs us
  | [], _, _, _, _, h => by
    cases h
    exact ⟨[], rfl, rfl⟩
  | i :: ix, ds, rs, vs, r, h => by
    have h : ((ds[i]?).bind fun d => (MP.pick ix ds).map fun rs => d :: rs) = some rs := h
    cases e : ds[i]? with
    | none => rw [e] at h; cases h
    | some d =>
      rw [e] at h
      cases q : MP.pick ix ds with
      | none => rw [q] at h; cases h
      | some zs =>
        rw [q] at h
        cases h
        obtain ⟨u, e1, e2⟩ := r.get e
        obtain ⟨ws, e3, e4⟩ := Reps.pick r q
        refine ⟨u :: ws, ?_, u, ws, rfl, e2, e4⟩
        show ((vs[i]?).bind fun d => (MP.pick ix vs).map fun rs => d :: rs) = _
        rw [e1, e3]
        rfl
def elen : Exs → Nat
  | .nil => 0
  | .cons _ es => elen es + 1
theorem evs_len : ∀ {es : Exs} {ρ : Sl} {st st' : Store} {ds : List D}, evs c es ρ st = .ok ds st' → ds.length = elen es
  | .nil, _, _, _, _, h => by
    rw [evs] at h
    cases h
    rfl
  | .cons e es, ρ, st, st', ds, h => by
    rw [evs] at h
    obtain ⟨x, s1, e1, h⟩ := bind_ok_inv h
    obtain ⟨xs, s2, e2, h⟩ := bind_ok_inv h
    cases h
    exact congrArg Nat.succ (evs_len e2)
theorem okEs_len : ∀ {es : Exs} {xs : List Expr}, okEs T se es xs = true → xs.length = elen es
  | .nil, xs, h => by
    rw [okEs] at h
    cases xs with
    | nil => rfl
    | cons _ _ => cases h
  | .cons e es, xs, h => by
    cases xs with
    | nil => simp [okEs] at h
    | cons x r =>
      rw [okEs, Bool.and_eq_true, Bool.and_eq_true] at h
      exact congrArg Nat.succ (okEs_len h.2.2)
theorem Aft.monoE {α β : Type} {Rel : Fr → Hp → α → β → Prop} {We : Value → Option Addr → Hp → Prop} {F : Fr} {H : Hp} {r : R α} {Q Q' : Fr → Hp → α → β → Prop} (h : Aft Rel C We F H r Q) (hq : ∀ F' H' a b st, r = .ok a st → Rel F' H' a b → Q F' H' a b → Q' F' H' a b) : Aft Rel C We F H r Q' := by
  cases r with
  | ok a st => exact fun F' H' b e x s q => hq F' H' a b st rfl q (h F' H' b e x s q)
  | exc k d st => exact h
  | bad => exact h
theorem evsT_len {es : Exs} {m : Nat} (hm : m = elen es) {σ : L2.St} {H : Hp} {Q : List V → Hp → Prop} (h : evsT C W c es σ H Q) : evsT C W c es σ H fun vs H1 => vs.length = m ∧ Q vs H1 := by
  obtain ⟨F, ρ, hs, hl, w⟩ := h
  exact ⟨F, ρ, hs, hl, w.monoE fun F' H' ds vs st e r q => ⟨by rw [hm, ← r.length]; exact evs_len e, q⟩⟩
theorem cak_of {f : Nat} {es ks : Exs} {ix : List Nat} {σ : L2.St} {H : Hp} {Q : VK} (h : evT C W c (.cak f es ks ix) σ H Q) : evsT C W c es σ H fun vs H1 => evsT C W c ks σ H1 fun zs H2 => ∃ ys, MP.pick ix (vs ++ zs) = some ys ∧ spF C c f ys H2 Q (WE W σ) := by
  obtain ⟨F, ρ, hs, hl, w⟩ := h
  rw [ev] at w
  refine ⟨F, ρ, hs, hl, (Aft.bind w).mono fun F1 H1 ds vs x1 s1 r1 q1 => ⟨F1, ρ, s1, hl.ext x1, (Aft.bind q1).mono fun F2 H2 es zs x2 s2 r2 q2 => ?_⟩⟩
  cases e : MP.pick ix (ds ++ es) with
  | none => rw [e] at q2; exact q2.elim
  | some rs =>
    rw [e] at q2
    obtain ⟨us, e1, e2⟩ := ((r1.ext x2).append r2).pick e
    exact ⟨us, e1, F2, rs, s2, e2, q2⟩
theorem pe_cakF (G : GX T C W c n se X) {f : Nat} {es ks : Exs} {ix : List Nat} {x : Str} {xs : List Expr} {kws : List Keyword} {p pos : Pos} (h1 : T.fns[f]? = some x) (h2 : gloB se.sc x = true) (h3 : okNm x = true) (ha : PA X xs (evsT C W c es)) (hk : PK X kws (evsT C W c ks))
    (hes : okEs T se es xs = true) (hks : okEs T se ks (kws.map (·.value)) = true) (hs : noStars xs = true) (hall : kws.all (fun k => k.arg.isSome) = true) (hix : (f, xs.length, kws.filterMap (·.arg), ix) ∈ T.kws) : PE X (.Call (.Name x p) xs kws pos) (evT C W c (.cak f es ks ix)) := by
  obtain ⟨k1, _, _⟩ := okNm_ok h3
  obtain ⟨hm, hkp, fd, ps, F, _, hb⟩ := G.fns f x h1
  have hl : (kws.filterMap (·.arg)).length = elen ks := by
    rw [← okEs_len hks, List.length_map]
    clear hks hk hix hb
    induction kws with
    | nil => rfl
    | cons k r ih =>
      obtain ⟨a, v, q⟩ := k
      rw [List.all_cons, Bool.and_eq_true] at hall
      cases a with
      | none => cases hall.1
      | some a =>
        show (a :: r.filterMap (·.arg)).length = r.length + 1
        rw [List.length_cons, ih hall.2]
  refine imp_e (pe_cakG F G.gd G.room G.ps (gloB_ok (by rw [G.sc]; exact h2)) hm hkp (hb _ _ _ hix) ha hk (fun σ H Q w => evsT_len (okEs_len hes) w) (fun σ H Q w => evsT_len hl w) (fun e σ H Q w => ?_) hall k1 hs) fun σ H Q w => cak_of w
  subst e
  cases es with
  | nil =>
    obtain ⟨F, ρ, hs, hl, w⟩ := w
    rw [evs] at w
    exact w.ok_now hs rfl
  | cons _ _ => simp [okEs] at hes
end
end MP
end
section
set_option maxRecDepth 100000
set_option maxHeartbeats 4000000
/-! MPLrn: objects learnt, as they stand, and forgotten again. -/
namespace MP
open PySem L2 PyProof.Rows
/-- these objects learnt -/
def lrn (K : List (Addr × Obj)) (H : Hp) : Hp := fun a => match K.lookup a with
  | some o => some (.frz o (.own a))
  | none => H a
def fgt (K : List (Addr × Obj)) (H : Hp) : Hp := fun a => match K.lookup a with
  | some _ => none
  | none => H a
section
variable {K : List (Addr × Obj)} {H H' : Hp} {a : Addr}
theorem lrn_in {o : Obj} (h : K.lookup a = some o) : lrn K H a = some (.frz o (.own a)) := by
  unfold lrn
  rw [h]
theorem lrn_out (h : K.lookup a = none) : lrn K H a = H a := by
  unfold lrn
  rw [h]
theorem fgt_in {o : Obj} (h : K.lookup a = some o) : fgt K H a = none := by
  unfold fgt
  rw [h]
theorem fgt_out (h : K.lookup a = none) : fgt K H a = H a := by
  unfold fgt
  rw [h]
theorem fgt_some {u : HO} (h : fgt K H a = some u) : K.lookup a = none ∧ H a = some u := by
  cases e : K.lookup a with
  | none => rw [fgt_out e] at h; exact ⟨rfl, h⟩
  | some o => rw [fgt_in e] at h; cases h
/-- they stand there, as nobody's -/
structure Fre (K : List (Addr × Obj)) (fs : List Addr) (H : Hp) (h : Heap) : Prop where
  non : ∀ a o, K.lookup a = some o → H a = none
  at_ : ∀ a o, K.lookup a = some o → h.get? a = some o
  nfs : ∀ a o, K.lookup a = some o → a ∉ fs
/-- they are learnt -/
structure Got (K : List (Addr × Obj)) (fs : List Addr) (H : Hp) : Prop where
  at_ : ∀ a o, K.lookup a = some o → H a = some (.frz o (.own a))
  nfs : ∀ a o, K.lookup a = some o → a ∉ fs
variable {fs : List Addr} {P : Program} {w : World} {h h' : Heap}
theorem Fre.got (f : Fre K fs H h) : Got K fs (lrn K H) := ⟨fun a o e => lrn_in e, f.nfs⟩
theorem Fre.ext (f : Fre K fs H h) {u : HO} (e : H a = some u) : lrn K H a = some u := by
  cases q : K.lookup a with
  | none => rw [lrn_out q]; exact e
  | some o => rw [f.non a o q] at e; cases e
theorem Fre.hok (f : Fre K fs H h) (x : HOk P w H h) : HOk P w (lrn K H) h := fun a u e => by
  cases q : K.lookup a with
  | none =>
    rw [lrn_out q] at e
    exact (x a u e).stay (fun _ _ _ z => z) (fun b z => f.ext z) fun b xs z => f.ext z
  | some o =>
    rw [lrn_in q] at e
    cases e
    exact ⟨f.at_ a o q, o, f.at_ a o q⟩
theorem fgt_keep (g : Got K fs H) {u : HO} (e : H a = some u) (hu : ∀ x y, u ≠ .frz x (.own y)) : fgt K H a = some u := by
  cases q : K.lookup a with
  | none => rw [fgt_out q]; exact e
  | some o =>
    rw [g.at_ a o q] at e
    exact absurd (Option.some.inj e).symm (hu _ _)
theorem Got.hok (g : Got K fs H) (x : HOk P w H h) : HOk P w (fgt K H) h := fun a u e => by
  obtain ⟨_, e⟩ := fgt_some e
  exact (x a u e).stay (fun _ _ _ z => z) (fun b z => fgt_keep g z fun _ _ z => nomatch z) fun b xs z => fgt_keep g z fun _ _ z => nomatch z
theorem Got.obj (g : Got K fs H) (x : HOk P w H h) {o : Obj} (e : K.lookup a = some o) : h.get? a = some o := (x a _ (g.at_ a o e)).1
theorem Got.fre (g : Got K fs H) (x : HOk P w H h) : Fre K fs (fgt K H) h := ⟨fun a o e => fgt_in e, fun a o e => g.obj x e, g.nfs⟩
theorem Got.back (g : Got K fs H) : lrn K (fgt K H) = H := by
  funext a
  cases q : K.lookup a with
  | none => rw [lrn_out q, fgt_out q]
  | some o => rw [lrn_in q, g.at_ a o q]
theorem Fre.back (f : Fre K fs H h) : fgt K (lrn K H) = H := by
  funext a
  cases q : K.lookup a with
  | none => rw [fgt_out q, lrn_out q]
  | some o => rw [fgt_in q, f.non a o q]
theorem Got.un (g : Got K fs H) (u : Un fs [] H H' h h') : Got K fs H' := ⟨fun a o e => u.frzs a o _ (g.at_ a o e), g.nfs⟩
/-- behind what was done while they were known: forgotten -/
theorem un_fgt (f : Fre K fs H h) (u : Un fs [] (lrn K H) H' h h') (x : HOk P w H' h') : Un fs [] H (fgt K H') h h' := by
  have g := f.got.un u
  refine ⟨fun b o e n nf nx => ?_, fun b o e n nf nx => ?_, fun b o e n nx => ?_, u.there, fun b xs e => ?_, fun b o v e => ?_, fun b ps e => ?_⟩
  · cases q : K.lookup b with
    | none => exact u.keep b o e (by rw [lrn_out q]; exact n) nf nx
    | some o' =>
      have e2 := f.at_ b o' q
      rw [e] at e2
      cases e2
      exact g.obj x q
  · cases q : K.lookup b with
    | none => exact u.slot b o e (by rw [lrn_out q]; exact n) nf nx
    | some o' => exact absurd nf (f.nfs b o' q)
  · cases q : K.lookup b with
    | none => rw [fgt_out q]; exact u.free b o e (by rw [lrn_out q]; exact n) nx
    | some o' => exact fgt_in q
  · exact fgt_keep g (u.tups b xs (f.ext e)) fun _ _ z => nomatch z
  · have q : K.lookup b = none := by
      cases q : K.lookup b with
      | none => rfl
      | some o' => rw [f.non b o' q] at e; cases e
    rw [fgt_out q]
    exact u.frzs b o v (f.ext e)
  · obtain ⟨m, e2⟩ := u.tbls b ps (f.ext e)
    exact ⟨m, fgt_keep g e2 fun _ _ z => nomatch z⟩
/-- behind what was done while they were not known: learnt again -/
theorem fre_un (f : Fre K fs H h) (u : Un fs [] H H' h h') : Fre K fs H' h' :=
  ⟨fun a o e => u.free a o (f.at_ a o e) (f.non a o e) (by simp), fun a o e => u.keep a o (f.at_ a o e) (f.non a o e) (f.nfs a o e) (by simp), f.nfs⟩
theorem un_lrn (f : Fre K fs H h) (u : Un fs [] H H' h h') : Un fs [] (lrn K H) (lrn K H') h h' := by
  have f' := fre_un f u
  have out : ∀ {b}, lrn K H b = none → K.lookup b = none ∧ H b = none := fun {b} n => by
    cases q : K.lookup b with
    | none => rw [lrn_out q] at n; exact ⟨rfl, n⟩
    | some o => rw [lrn_in q] at n; cases n
  have at_ : ∀ {b : Addr} {v : HO}, lrn K H b = some v → (∀ x y, v ≠ .frz x (.own y)) → H b = some v := fun {b v} e hv => by
    cases q : K.lookup b with
    | none => rw [lrn_out q] at e; exact e
    | some o => rw [lrn_in q] at e; exact absurd (Option.some.inj e).symm (hv _ _)
  refine ⟨fun b o e n => u.keep b o e (out n).2, fun b o e n => u.slot b o e (out n).2, fun b o e n nx => ?_, u.there, fun b xs e => ?_, fun b o v e => ?_, fun b ps e => ?_⟩
  · rw [lrn_out (out n).1]
    exact u.free b o e (out n).2 nx
  · exact f'.ext (u.tups b xs (at_ e fun _ _ z => nomatch z))
  · cases q : K.lookup b with
    | none => rw [lrn_out q] at e ⊢; exact u.frzs b o v e
    | some o' => rw [lrn_in q] at e ⊢; exact e
  · obtain ⟨m, e2⟩ := u.tbls b ps (at_ e fun _ _ z => nomatch z)
    exact ⟨m, f'.ext e2⟩
/-! ### exceptions -/
theorem cx_fgt {s s' : Shared} {outer : List Env} {E : XK} {e : Value} (f : Fre K (frs outer) H s.heap) (c : L2.CX P w outer (lrn K H) s (fun cl d H' => E cl d (fgt K H')) e s') : L2.CX P w outer H s E e s' := by
  obtain ⟨a, B, H', cls, d, ee, fl, hk, u, na, os, ag, q⟩ := c
  have g : Got K (frs outer) H' := ⟨fun b o e => u.frzs b o _ (lrn_in e), f.nfs⟩
  refine ⟨a, B, fgt K H', cls, d, ee, fl, g.hok hk, ⟨fun b o e n nf => ?_, u.slot, fun b o e n => ?_, u.there, fun b xs e => ?_, fun b o v e => ?_, fun b ps e => ?_⟩, ?_, os, ag, q⟩
  · cases q : K.lookup b with
    | none => exact u.keep b o e (by rw [lrn_out q]; exact n) nf
    | some o' =>
      have e2 := f.at_ b o' q
      rw [e] at e2
      cases e2
      exact g.obj hk q
  · cases q : K.lookup b with
    | none => rw [fgt_out q]; exact u.free b o e (by rw [lrn_out q]; exact n)
    | some o' => exact fgt_in q
  · exact fgt_keep g (u.tups b xs (f.ext e)) fun _ _ z => nomatch z
  · have q : K.lookup b = none := by
      cases q : K.lookup b with
      | none => rfl
      | some o' => rw [f.non b o' q] at e; cases e
    rw [fgt_out q]
    exact u.frzs b o v (f.ext e)
  · obtain ⟨m, e2⟩ := u.tbls b ps (f.ext e)
    exact ⟨m, fgt_keep g e2 fun _ _ z => nomatch z⟩
  · cases q : K.lookup a with
    | none => rw [fgt_out q]; exact na
    | some o' => exact fgt_in q
theorem cx_lrn {s s' : Shared} {outer : List Env} {E : XK} {e : Value} (f : Fre K (frs outer) H s.heap) (c : L2.CX P w outer H s (fun cl d H' => (∀ a o, K.lookup a = some o → H' a = none) → E cl d (lrn K H')) e s') : L2.CX P w outer (lrn K H) s E e s' := by
  obtain ⟨a, B, H', cls, d, ee, fl, hk, u, na, os, ag, q⟩ := c
  have f' : Fre K (frs outer) H' B := ⟨fun b o e => u.free b o (f.at_ b o e) (f.non b o e), fun b o e => u.keep b o (f.at_ b o e) (f.non b o e) (f.nfs b o e), f.nfs⟩
  have out : ∀ {b}, lrn K H b = none → K.lookup b = none ∧ H b = none := fun {b} n => by
    cases q : K.lookup b with
    | none => rw [lrn_out q] at n; exact ⟨rfl, n⟩
    | some o => rw [lrn_in q] at n; cases n
  have at_ : ∀ {b : Addr} {v : HO}, lrn K H b = some v → (∀ x y, v ≠ .frz x (.own y)) → H b = some v := fun {b v} e hv => by
    cases q : K.lookup b with
    | none => rw [lrn_out q] at e; exact e
    | some o => rw [lrn_in q] at e; exact absurd (Option.some.inj e).symm (hv _ _)
  have nK : K.lookup a = none := by
    cases q : K.lookup a with
    | none => rfl
    | some o =>
      have z := f'.at_ a o q
      rw [fl.2.1] at z
      cases z
  replace q := q f'.non
  refine ⟨a, B, lrn K H', cls, d, ee, fl, f'.hok hk, ⟨fun b o e n nf => u.keep b o e (out n).2 nf, u.slot, fun b o e n => ?_, u.there, fun b xs e => ?_, fun b o v e => ?_, fun b ps e => ?_⟩, ?_, os, ag, q⟩
  · rw [lrn_out (out n).1]
    exact u.free b o e (out n).2
  · exact f'.ext (u.tups b xs (at_ e fun _ _ z => nomatch z))
  · cases q : K.lookup b with
    | none => rw [lrn_out q] at e ⊢; exact u.frzs b o v e
    | some o' => rw [lrn_in q] at e ⊢; exact e
  · obtain ⟨m, e2⟩ := u.tbls b ps (at_ e fun _ _ z => nomatch z)
    exact ⟨m, f'.ext e2⟩
  · rw [lrn_out nK]
    exact na
end
end MP
end
section
set_option maxRecDepth 100000
set_option maxHeartbeats 4000000
/-! MPSnd12: built-in functions. -/
namespace MP
open PySem L2
variable [Glo]
/-- a built-in function's promise -/
def rBlt (b : Bf) : List V → Hp → VK → Prop := fun vs H Q => ∃ F ds z, Sto F H ∧ Reps F H ds vs ∧ bltD F.st b ds = some z ∧ ∀ H' v, Ext F H F H' → Sto F H' → Rep F H' z v → Q v H'
/-! ### data, for repr -/
theorem thaw_dp {K : PySem.W.Frag} {F : Fr} {H : Hp} (s : Sto F H) : ∀ (n : Nat) (d : D) (v : V) (p : PyData), Rep F H d v → thaw F.st n d = some p → Dp K H v p ∧ p.hasDict = false
  | n, .non, v, p, r, h => by
    rw [thaw] at h
    cases h
    rw [show v = V.non from r]
    exact ⟨.non, rfl⟩
  | n, .bl b, v, p, r, h => by
    rw [thaw] at h
    cases h
    rw [show v = V.bl b from r]
    exact ⟨.bl b, rfl⟩
  | n, .int i, v, p, r, h => by
    rw [thaw] at h
    cases h
    rw [show v = V.int i from r]
    exact ⟨.int i, rfl⟩
  | n, .str z, v, p, r, h => by
    rw [thaw] at h
    cases h
    rw [show v = V.str z from r]
    exact ⟨.str z, rfl⟩
  | n + 1, .lst ds, v, p, r, h => by
    rw [thaw] at h
    obtain ⟨a, vs, e, _, ha, rs⟩ := r
    cases q : mapO (thaw F.st n) ds with
    | none => rw [q] at h; cases h
    | some ps =>
      rw [q] at h
      cases h
      obtain ⟨h1, h2⟩ := thaws_dp (fun d v p => thaw_dp s n d v p) ds vs ps rs q
      rw [e]
      exact ⟨.lst (SqL.of ha) h1, by rw [PyData.hasDict]; exact h2⟩
  | n + 1, .tup ds, v, p, r, h => by
    rw [thaw] at h
    obtain ⟨a, vs, e, _, ha, rs⟩ := r
    cases q : mapO (thaw F.st n) ds with
    | none => rw [q] at h; cases h
    | some ps =>
      rw [q] at h
      cases h
      obtain ⟨h1, h2⟩ := thaws_dp (fun d v p => thaw_dp s n d v p) ds vs ps rs q
      rw [e]
      exact ⟨.tup (SqT.of ha) h1, by rw [PyData.hasDict]; exact h2⟩
  | n + 1, .cel k, v, p, r, h => by
    rw [thaw] at h
    split at h
    · rename_i ds e
      obtain ⟨ev, _⟩ := r
      obtain ⟨vs, ha, rs⟩ := s.ce k _ e
      cases q : mapO (thaw F.st n) ds with
      | none => rw [q] at h; cases h
      | some ps =>
        rw [q] at h
        cases h
        obtain ⟨h1, h2⟩ := thaws_dp (fun d v p => thaw_dp s n d v p) ds vs ps rs q
        rw [ev]
        exact ⟨.lst (SqL.of ha) h1, by rw [PyData.hasDict]; exact h2⟩
    · cases h
  | 0, .lst _, _, _, _, h => by simp [thaw] at h
  | 0, .tup _, _, _, _, h => by simp [thaw] at h
  | 0, .cel _, _, _, _, h => by simp [thaw] at h
  | n, .dic _, _, _, _, h => by cases n <;> simp [thaw] at h
  | n, .scr _, _, _, _, h => by cases n <;> simp [thaw] at h
  | n, .exv _ _, _, _, _, h => by cases n <;> simp [thaw] at h
  | n, .fn _, _, _, _, h => by cases n <;> simp [thaw] at h
  | n, .clo _ _, _, _, _, h => by cases n <;> simp [thaw] at h
where
  thaws_dp {f : D → Option PyData} (hf : ∀ d v p, Rep F H d v → f d = some p → Dp K H v p ∧ p.hasDict = false) : ∀ (ds : List D) (vs : List V) (ps : List PyData), Reps F H ds vs → mapO f ds = some ps → DpAll K H vs ps ∧ PyData.hasDictAll ps = false
    | [], vs, ps, r, h => by
      cases h
      rw [show vs = [] from r]
      exact ⟨.nil, rfl⟩
    | d :: ds, _, ps, ⟨v, r, e, h1, h2⟩, h => by
      subst e
      have h : ((f d).bind fun x => (mapO f ds).map fun xs => x :: xs) = some ps := h
      cases q : f d with
      | none => rw [q] at h; cases h
      | some x =>
        rw [q] at h
        cases q2 : mapO f ds with
        | none => rw [q2] at h; cases h
        | some xs =>
          rw [q2] at h
          cases h
          obtain ⟨k1, k2⟩ := hf d v x h1 q
          obtain ⟨k3, k4⟩ := thaws_dp hf ds r xs h2 q2
          exact ⟨.cons k1 k3, by rw [PyData.hasDictAll, k2, k4]; rfl⟩
theorem data_of {K : PySem.W.Frag} {F : Fr} {H : Hp} {d : D} {v : V} {z : Str} (s : Sto F H) (r : Rep F H d v) (hd : ∀ k, d ≠ .dic k) (h : reprD F.st d = some z) : ∃ p, Dp K H v p ∧ p.hasDict = false ∧ p.showable = true ∧ p.depth ≤ 64 ∧ p.shown.length ≤ line ∧ z = p.shown := by
  have h : ((thaw F.st 9 d).bind fun x => if x.showable && decide (x.depth ≤ 64) && decide (x.shown.length ≤ line) then some x.shown else none) = some z := by
    cases d with
    | dic k => exact absurd rfl (hd k)
    | _ => exact h
  cases q : thaw F.st 9 d with
  | none => rw [q] at h; cases h
  | some p =>
    rw [q] at h
    have h : (if p.showable && decide (p.depth ≤ 64) && decide (p.shown.length ≤ line) then some p.shown else none) = some z := h
    split at h
    · rename_i c
      cases h
      simp only [Bool.and_eq_true, decide_eq_true_eq] at c
      obtain ⟨k1, k2⟩ := thaw_dp (K := K) s 9 d v p r q
      exact ⟨p, k1, k2, c.1.1, c.1.2, c.2, rfl⟩
    · cases h
section
variable {X : Cx} {n : Nat}
theorem vals_1 {x : V} {us : List Value} (r : Vals [x] us) : ∃ u, us = [u] ∧ RelV x u := L2.vals1 r
/-- repr(d) -/
theorem cr_reprU (un : X.A.units + 16 * n + 200 < cLine) (hg : X.A.guards = some []) : CallR X (.builtin "repr") (rBlt .repr) := by
  intro pins s σ H xs us Q I r ⟨F, ds, z, hs, rs, hz, q⟩
  rcases ds with _ | ⟨d, _ | ⟨_, _⟩⟩
  · cases hz
  rotate_left
  · cases hz
  obtain ⟨x, _, e, rd, e2⟩ := rs
  rw [show _ = [] from e2] at e
  subst e
  obtain ⟨u, rfl, ru⟩ := vals_1 r
  replace hz : (reprD F.st d).map .str = some z := hz
  cases hq : reprD F.st d with
  | none => rw [hq] at hz; cases hz
  | some z' =>
    rw [hq] at hz
    cases hz
    have fin : ∀ {h' : Heap} {tk t : Nat}, (∀ b o, s.heap.get? b = some o → h'.get? b = some o) → EP X pins σ Q (.str z' t) { s with heap := h', toks := tk } := fun k => ⟨.str z', H, I.kept k, ⟨_, rfl⟩, q H _ (Ext.refl F H) hs rfl⟩
    cases d with
    | dic kvs =>
      cases kvs with
      | cons _ _ => cases hq
      | nil =>
        cases hq
        obtain ⟨a, ws, ea, _, ha, rk⟩ := rd
        rw [show ws = [] from rk] at ha
        subst ea
        cases ru
        obtain ⟨_, lo, vs, kv, m⟩ := dk_of I.hok ha
        cases kv
        obtain ⟨o, es, ep, h1, h2, h3, _, h4, _⟩ := m
        have he : es.toList = [] := by
          cases e : es.toList with
          | nil => rfl
          | cons _ _ => rw [e] at h4; cases h4
        have rr : Reads s.heap (.ref a) (.dict []) (a :: [] ++ []) := .dict h1 h2.1 h3 (by rw [he]; exact .nil) (by rw [he]; exact .nil)
        exact PySem.repr_of_reads' rr rfl (fun _ hm => absurd hm (by simpa using fun z => Bool.false_ne_true (lo.symm.trans (beq_iff_eq.mpr z.symm)))) hg (by show X.A.units + (_ + 1) < cLine; simp [PyData.depth, PyData.depthKv]; omega) (fun _ _ e => e) (fun h' u tk k => fin k) (by decide)
    | _ =>
      obtain ⟨p, dp, nd, sh, dep, sz, ez⟩ := data_of (K := X.K) hs rd (fun k z => nomatch z) hq
      subst ez
      rw [line_eq] at sz
      cases dp with
      | non => cases ru; exact PySem.P.repr_of_none (fin fun _ _ e => e)
      | bl b => cases ru; exact PySem.P.repr_of_bool (fin fun _ _ e => e)
      | int i =>
        obtain ⟨t, rfl⟩ := ru
        exact PySem.P.repr_of_int (by simpa [PyData.showable] using sh) (fin fun _ _ e => e)
      | str z =>
        obtain ⟨t, rfl⟩ := ru
        exact PySem.P.repr_of_str (fin fun _ _ e => e) (by simpa [PyData.shown] using sz)
      | lst h1 h2 =>
        obtain ⟨as, rr⟩ := Dp.reads I _ _ _ (.lst h1 h2) ru
        cases ru
        exact PySem.repr_of_reads' rr sh (PyData.noDict_hsm nd) hg (by omega) (fun _ _ e => e) (fun h' u tk k => fin k) sz
      | tup h1 h2 =>
        obtain ⟨as, rr⟩ := Dp.reads I _ _ _ (.tup h1 h2) ru
        cases ru
        exact PySem.repr_of_reads' rr sh (PyData.noDict_hsm nd) hg (by omega) (fun _ _ e => e) (fun h' u tk k => fin k) sz
theorem cr_repr (hr : Room n X.A) (hg : X.A.guards = some []) : CallR X (.builtin "repr") (rBlt .repr) := cr_reprU hr.un hg
end
end MP
end
section
set_option maxRecDepth 100000
set_option maxHeartbeats 4000000
/-! MPSnd13: further built-in functions. -/
namespace MP
open PySem L2
variable [Glo]
section
variable {X : Cx} {n : Nat}
theorem one_rep {F : Fr} {H : Hp} {d : D} {xs : List V} (r : Reps F H [d] xs) : ∃ x, xs = [x] ∧ Rep F H d x := by
  obtain ⟨x, _, e, rd, e2⟩ := r
  rw [show _ = [] from e2] at e
  exact ⟨x, e, rd⟩
theorem two_rep {F : Fr} {H : Hp} {d e : D} {xs : List V} (r : Reps F H [d, e] xs) : ∃ x y, xs = [x, y] ∧ Rep F H d x ∧ Rep F H e y := by
  obtain ⟨x, _, e1, rd, y, _, e2, re, e3⟩ := r
  rw [show _ = [] from e3] at e2
  rw [e2] at e1
  exact ⟨x, y, e1, rd, re⟩
theorem cr_lenF : CallR X (.builtin "len") (rBlt .len) := by
  intro pins s σ H xs us Q I r ⟨F, ds, z, hs, rs, hz, q⟩
  rcases ds with _ | ⟨d, _ | ⟨_, _⟩⟩
  · cases hz
  rotate_left
  · cases hz
  obtain ⟨x, rfl, rd⟩ := one_rep rs
  replace hz : (lenD F.st d).map (fun (n : Nat) => D.int n) = some z := hz
  cases hq : lenD F.st d with
  | none => rw [hq] at hz; cases hz
  | some m =>
    rw [hq] at hz
    cases hz
    refine call_len pins s σ H [x] us Q I r ⟨x, m, rfl, ?_, q H _ (Ext.refl F H) hs rfl⟩
    cases d with
    | tup ds =>
      cases hq
      obtain ⟨a, vs, e, _, ha, rs⟩ := rd
      rw [e]
      exact .inr ⟨vs, SqT.of ha, rs.length⟩
    | lst ds =>
      cases hq
      obtain ⟨a, vs, e, _, ha, rs⟩ := rd
      rw [e]
      exact .inl ⟨vs, SqL.of ha, rs.length⟩
    | scr ns =>
      cases hq
      obtain ⟨a, o, e, _, ha⟩ := rd
      rw [e]
      exact .inl ⟨_, .inl (.inr ⟨o, ha⟩), by rw [List.length_map]⟩
    | str w =>
      have hq : (if w.length ≤ line then some w.length else none) = some m := hq
      split at hq
      · rename_i hl
        cases hq
        rw [line_eq] at hl
        rw [show x = V.str w from rd]
        exact ⟨hl, rfl⟩
      · cases hq
    | cel k =>
      have hq : (match F.st[k]? with
        | some (.lst ds) => some ds.length
        | _ => none) = some m := hq
      split at hq
      · rename_i ds e
        cases hq
        obtain ⟨ev, _⟩ := rd
        obtain ⟨vs, ha, rs⟩ := hs.ce k _ e
        rw [ev]
        exact .inl ⟨vs, SqL.of ha, rs.length⟩
      · cases hq
    | _ => cases hq
theorem cr_anyF (hc : X.calm = true) : CallR X (.builtin "any") (rBlt .any) := by
  intro pins s σ H xs us Q I r ⟨F, ds, z, hs, rs, hz, q⟩
  rcases ds with _ | ⟨d, _ | ⟨_, _⟩⟩
  · cases hz
  rotate_left
  · cases hz
  obtain ⟨x, rfl, rd⟩ := one_rep rs
  replace hz : ((items F.st d).bind blsD).map (fun bs => D.bl (bs.any id)) = some z := hz
  cases hq : (items F.st d).bind blsD with
  | none => rw [hq] at hz; cases hz
  | some bs =>
    rw [hq] at hz
    cases hz
    obtain ⟨a, e, ha⟩ := items_bls hs rd hq
    subst e
    exact cr_any hc pins s σ H _ us Q I r ⟨a, bs, rfl, SqL.of ha, q H _ (Ext.refl F H) hs rfl⟩
theorem cr_allF (hc : X.calm = true) : CallR X (.builtin "all") (rBlt .all) := by
  intro pins s σ H xs us Q I r ⟨F, ds, z, hs, rs, hz, q⟩
  rcases ds with _ | ⟨d, _ | ⟨_, _⟩⟩
  · cases hz
  rotate_left
  · cases hz
  obtain ⟨x, rfl, rd⟩ := one_rep rs
  replace hz : ((items F.st d).bind blsD).map (fun bs => D.bl (bs.all id)) = some z := hz
  cases hq : (items F.st d).bind blsD with
  | none => rw [hq] at hz; cases hz
  | some bs =>
    rw [hq] at hz
    cases hz
    obtain ⟨a, e, ha⟩ := items_bls hs rd hq
    subst e
    exact cr_all hc pins s σ H _ us Q I r ⟨a, bs, rfl, SqL.of ha, q H _ (Ext.refl F H) hs rfl⟩
theorem cr_sumF (hc : X.calm = true) : CallR X (.builtin "sum") (rBlt .sum) := by
  intro pins s σ H xs us Q I r ⟨F, ds, z, hs, rs, hz, q⟩
  rcases ds with _ | ⟨d, _ | ⟨_, _⟩⟩
  · cases hz
  rotate_left
  · cases hz
  obtain ⟨x, rfl, rd⟩ := one_rep rs
  have go : ((items F.st d).bind intsD).map (fun ns => D.int ns.sum) = some z → wpAny (model X.prog X.w) X.A (call (.builtin "sum") us) (EP X pins σ Q) X.xe s := by
    intro hz
    cases hq : (items F.st d).bind intsD with
    | none => rw [hq] at hz; cases hz
    | some ns =>
      rw [hq] at hz
      cases hz
      obtain ⟨a, e, ha⟩ := items_ints hs rd hq
      subst e
      exact cr_sum hc pins s σ H _ us Q I r ⟨a, ns, rfl, SqL.of ha, q H _ (Ext.refl F H) hs rfl⟩
  cases d with
  | scr ns =>
    cases hz
    obtain ⟨a, o, e, _, ha⟩ := rd
    subst e
    exact cr_sum hc pins s σ H _ us Q I r ⟨a, ns, rfl, .inl (.inr ⟨o, ha⟩), q H _ (Ext.refl F H) hs rfl⟩
  | _ => exact go hz
theorem maxI_spec : ∀ {ns : List Int} {m : Int}, maxI ns = some m → m ∈ ns ∧ ∀ y ∈ ns, y ≤ m
  | [], _, h => by cases h
  | [a], m, h => by
    cases h
    exact ⟨by simp, fun y hy => by simp at hy; omega⟩
  | a :: b :: r, m, h => by
    have h : (maxI (b :: r)).map (fun k => if a < k then k else a) = some m := h
    cases q : maxI (b :: r) with
    | none => rw [q] at h; cases h
    | some k =>
      rw [q] at h
      cases h
      obtain ⟨h1, h2⟩ := maxI_spec q
      simp only []
      by_cases hk : a < k
      · rw [if_pos hk]
        refine ⟨List.mem_cons_of_mem _ h1, fun y hy => ?_⟩
        rcases List.mem_cons.mp hy with e | hy
        · omega
        · exact h2 y hy
      · rw [if_neg hk]
        refine ⟨List.mem_cons_self, fun y hy => ?_⟩
        rcases List.mem_cons.mp hy with e | hy
        · omega
        · have := h2 y hy
          omega
theorem cr_maxF (hc : X.calm = true) : CallR X (.builtin "max") (rBlt .max) := by
  intro pins s σ H xs us Q I r ⟨F, ds, z, hs, rs, hz, q⟩
  rcases ds with _ | ⟨d, _ | ⟨_, _⟩⟩
  · cases hz
  rotate_left
  · cases hz
  obtain ⟨x, rfl, rd⟩ := one_rep rs
  replace hz : ((items F.st d).bind intsD).bind (fun ns => (maxI ns).map .int) = some z := hz
  cases hq : (items F.st d).bind intsD with
  | none => rw [hq] at hz; cases hz
  | some ns =>
    rw [hq] at hz
    cases hm : maxI ns with
    | none => rw [show (some ns).bind (fun ns => (maxI ns).map D.int) = (maxI ns).map D.int from rfl, hm] at hz; cases hz
    | some m =>
      rw [show (some ns).bind (fun ns => (maxI ns).map D.int) = (maxI ns).map D.int from rfl, hm] at hz
      cases hz
      obtain ⟨a, e, ha⟩ := items_ints hs rd hq
      subst e
      obtain ⟨m1, m2⟩ := maxI_spec hm
      refine cr_max hc pins s σ H _ us Q I r ⟨a, ns, rfl, SqL.of ha, ?_, fun m' h1 h2 => ?_⟩
      · exact List.length_pos_of_mem m1
      · have e : m' = m := Int.le_antisymm (m2 _ h1) (h2 _ m1)
        subst e
        exact q H _ (Ext.refl F H) hs rfl
theorem cr_max2F (hc : X.calm = true) : CallR X (.builtin "max") (rBlt .max2) := by
  intro pins s σ H xs us Q I r ⟨F, ds, z, hs, rs, hz, q⟩
  rcases ds with _ | ⟨d, _ | ⟨e, _ | ⟨_, _⟩⟩⟩
  · cases hz
  · cases d <;> cases hz
  rotate_left
  · cases d <;> cases e <;> cases hz
  obtain ⟨x, y, rfl, rd, re⟩ := two_rep rs
  cases d <;> cases e <;> first | (cases hz; done) | skip
  cases hz
  exact call_max2 hc pins s σ H _ us Q I r ⟨_, _, by rw [show x = _ from rd, show y = _ from re], q H _ (Ext.refl F H) hs rfl⟩
theorem cr_min2F (hc : X.calm = true) : CallR X (.builtin "min") (rBlt .min2) := by
  intro pins s σ H xs us Q I r ⟨F, ds, z, hs, rs, hz, q⟩
  rcases ds with _ | ⟨d, _ | ⟨e, _ | ⟨_, _⟩⟩⟩
  · cases hz
  · cases d <;> cases hz
  rotate_left
  · cases d <;> cases e <;> cases hz
  obtain ⟨x, y, rfl, rd, re⟩ := two_rep rs
  cases d <;> cases e <;> first | (cases hz; done) | skip
  cases hz
  exact call_min2 hc pins s σ H _ us Q I r ⟨_, _, by rw [show x = _ from rd, show y = _ from re], q H _ (Ext.refl F H) hs rfl⟩
theorem cr_absF : CallR X (.builtin "abs") (rBlt .abs) := by
  intro pins s σ H xs us Q I r ⟨F, ds, z, hs, rs, hz, q⟩
  rcases ds with _ | ⟨d, _ | ⟨_, _⟩⟩
  · cases hz
  rotate_left
  · cases d <;> cases hz
  obtain ⟨x, rfl, rd⟩ := one_rep rs
  cases d <;> first | (cases hz; done) | skip
  cases hz
  exact call_abs pins s σ H _ us Q I r ⟨_, by rw [show x = _ from rd], q H _ (Ext.refl F H) hs rfl⟩
theorem cr_ordF : CallR X (.builtin "ord") (rBlt .ord) := by
  intro pins s σ H xs us Q I r ⟨F, ds, z, hs, rs, hz, q⟩
  rcases ds with _ | ⟨d, _ | ⟨_, _⟩⟩
  · cases hz
  rotate_left
  · cases d <;> cases hz
  obtain ⟨x, rfl, rd⟩ := one_rep rs
  cases d with
  | str w =>
    have hz : (if w.length = 1 then some (D.int (w.cps.getD 0 0 : Nat)) else none) = some z := hz
    split at hz
    · cases hz
      exact call_ord pins s σ H _ us Q I r ⟨_, by rw [show x = _ from rd], by assumption, q H _ (Ext.refl F H) hs rfl⟩
    · cases hz
  | _ => cases hz
theorem cr_intF : CallR X (.type "int") (rBlt .int) := by
  intro pins s σ H xs us Q I r ⟨F, ds, z, hs, rs, hz, q⟩
  rcases ds with _ | ⟨d, _ | ⟨_, _⟩⟩
  · cases hz
  rotate_left
  · cases d <;> cases hz
  obtain ⟨x, rfl, rd⟩ := one_rep rs
  cases d with
  | int i =>
    cases hz
    exact call_int1 pins s σ H _ us Q I r (.inl ⟨_, by rw [show x = _ from rd], q H _ (Ext.refl F H) hs rfl⟩)
  | bl k =>
    cases hz
    exact call_int1 pins s σ H _ us Q I r (.inr ⟨_, by rw [show x = _ from rd], q H _ (Ext.refl F H) hs rfl⟩)
  | str w =>
    have hz : (if w.length ≤ 640 then (intText? w).map D.int else none) = some z := hz
    split at hz
    · cases ht : intText? w with
      | none => rw [ht] at hz; cases hz
      | some m =>
        rw [ht] at hz
        cases hz
        exact call_int_str pins s σ H _ us Q I r ⟨w, m, by rw [show x = _ from rd], ht, by assumption, q H _ (Ext.refl F H) hs rfl⟩
    · cases hz
  | _ => cases hz
theorem cr_listF : CallR X (.type "list") (rBlt .list) := by
  intro pins s σ H xs us Q I r ⟨F, ds, z, hs, rs, hz, q⟩
  rcases ds with _ | ⟨d, _ | ⟨_, _⟩⟩
  · cases hz
  rotate_left
  · cases hz
  obtain ⟨x, rfl, rd⟩ := one_rep rs
  have go : (items F.st d).map .lst = some z → wpAny (model X.prog X.w) X.A (call (.type "list") us) (EP X pins σ Q) X.xe s := by
    intro hz
    cases hi : items F.st d with
    | none => rw [hi] at hz; cases hz
    | some es =>
      rw [hi] at hz
      cases hz
      obtain ⟨a, vs, ea, ha, rs'⟩ := items_rep hs rd hi
      subst ea
      exact call_list_of pins s σ H _ us Q I r ⟨a, vs, rfl, .inl (SqL.of ha), fun l hl => q _ _ (Ext.fresh F _ hl) (hs.fresh _ hl) (Rep.newL hs hl rs')⟩
  cases d with
  | tup es =>
    cases hz
    obtain ⟨a, vs, ea, _, ha, rs'⟩ := rd
    subst ea
    exact call_list_of pins s σ H _ us Q I r ⟨a, vs, rfl, .inr (SqT.of ha), fun l hl => q _ _ (Ext.fresh F _ hl) (hs.fresh _ hl) (Rep.newL hs hl rs')⟩
  | _ => exact go hz
theorem cr_tupleF : CallR X (.type "tuple") (rBlt .tuple) := by
  intro pins s σ H xs us Q I r ⟨F, ds, z, hs, rs, hz, q⟩
  rcases ds with _ | ⟨d, _ | ⟨_, _⟩⟩
  · cases hz
  rotate_left
  · cases hz
  obtain ⟨x, rfl, rd⟩ := one_rep rs
  have go : (items F.st d).map .tup = some z → wpAny (model X.prog X.w) X.A (call (.type "tuple") us) (EP X pins σ Q) X.xe s := by
    intro hz
    cases hi : items F.st d with
    | none => rw [hi] at hz; cases hz
    | some es =>
      rw [hi] at hz
      cases hz
      obtain ⟨a, vs, ea, ha, rs'⟩ := items_rep hs rd hi
      subst ea
      exact call_tuple_of pins s σ H _ us Q I r ⟨a, vs, rfl, .inl ⟨SqL.of ha, fun l hl => q _ _ (Ext.fresh F _ hl) (hs.fresh _ hl) (Rep.newT hs hl rs')⟩⟩
  cases d with
  | tup es =>
    cases hz
    obtain ⟨a, vs, ea, hu, ha, rs'⟩ := rd
    subst ea
    exact call_tuple_of pins s σ H _ us Q I r ⟨a, vs, rfl, .inr ⟨SqT.of ha, q _ _ (Ext.refl F H) hs ⟨a, vs, rfl, hu, ha, rs'⟩⟩⟩
  | _ => exact go hz
theorem cr_strF (hr : Room n X.A) (hg : X.A.guards = some []) : CallR X (.type "str") (rBlt .str) := by
  intro pins s σ H xs us Q I r ⟨F, ds, z, hs, rs, hz, q⟩
  rcases ds with _ | ⟨d, _ | ⟨_, _⟩⟩
  · cases hz
  rotate_left
  · cases hz
  obtain ⟨x, rfl, rd⟩ := one_rep rs
  have un := hr.un
  have go : (∀ k, d ≠ .dic k) → (∀ k, d ≠ .str k) → (∀ k, d ≠ .int k) → (∃ a, x = .ref a) → (reprD F.st d).map .str = some z → wpAny (model X.prog X.w) X.A (call (.type "str") us) (EP X pins σ Q) X.xe s := by
    intro h1 _ _ ⟨a, ea⟩ hz
    subst ea
    cases hq : reprD F.st d with
    | none => rw [hq] at hz; cases hz
    | some w =>
      rw [hq] at hz
      cases hz
      obtain ⟨u, rfl, ru⟩ := vals_1 r
      cases ru
      obtain ⟨p, dp, nd, sh, dep, sz, ez⟩ := data_of (K := X.K) hs rd h1 hq
      subst ez
      rw [line_eq] at sz
      have fin : ∀ {h' : Heap} {tk t : Nat}, (∀ b o, s.heap.get? b = some o → h'.get? b = some o) → EP X pins σ Q (.str p.shown t) { s with heap := h', toks := tk } := fun k => ⟨.str p.shown, H, I.kept k, ⟨_, rfl⟩, q H _ (Ext.refl F H) hs rfl⟩
      obtain ⟨as, rr⟩ := Dp.reads I p (.ref a) (.ref a) dp rfl
      exact PySem.str_of_reads rr sh (PyData.noDict_hsm nd) hg (by omega) (fun _ _ e => e) (fun h' u tk k => fin k) sz
  cases d with
  | int i =>
    have hz : (if i.natAbs.log2 < 1920 then some (D.str (toString i)) else none) = some z := hz
    split at hz
    · cases hz
      exact call_str_int pins s σ H _ us Q I r ⟨i, by rw [show x = _ from rd], by assumption, q H _ (Ext.refl F H) hs rfl⟩
    · cases hz
  | str w =>
    cases hz
    exact SkE.call_str_str pins s σ H _ us Q I r ⟨w, by rw [show x = _ from rd], q H _ (Ext.refl F H) hs rfl⟩
  | lst es => exact go (fun _ z => nomatch z) (fun _ z => nomatch z) (fun _ z => nomatch z) (by obtain ⟨a, _, e, _⟩ := rd; exact ⟨a, e⟩) hz
  | cel k => exact go (fun _ z => nomatch z) (fun _ z => nomatch z) (fun _ z => nomatch z) (by obtain ⟨e, _⟩ := rd; exact ⟨_, e⟩) hz
  | _ => cases hz
end
end MP
end
section
set_option maxRecDepth 100000
set_option maxHeartbeats 4000000
/-! MPSnd14: sorted, isinstance. -/
namespace MP
open PySem L2
variable [Glo]
theorem each_rep {F : Fr} {H : Hp} : ∀ {ds : List D} {xs : List V} {us : List Value}, Reps F H ds xs → Vals xs us → PySem.W.EachIs (fun u d => ∃ x, RelV x u ∧ Rep F H d x) us ds
  | [], xs, us, r, v => by
    rw [show xs = [] from r] at v
    cases v
    exact .nil
  | d :: ds, _, us, ⟨x, r, e, h1, h2⟩, v => by
    subst e
    cases v with
    | cons v1 v2 => exact .cons ⟨x, v1, h1⟩ (each_rep h2 v2)
theorem rep_each {F : Fr} {H : Hp} : ∀ {ds : List D} {us : List Value}, PySem.W.EachIs (fun u d => ∃ x, RelV x u ∧ Rep F H d x) us ds → ∃ xs, Vals xs us ∧ Reps F H ds xs
  | [], _, h => by
    cases h
    exact ⟨[], .nil, rfl⟩
  | d :: ds, _, h => by
    cases h with
    | cons h1 h2 =>
      obtain ⟨x, r1, r2⟩ := h1
      obtain ⟨xs, q1, q2⟩ := rep_each h2
      exact ⟨x :: xs, .cons r1 q1, x, xs, rfl, r2, q2⟩
section
variable {X : Cx} {n : Nat}
theorem cr_sortedF (hr : Room n X.A) : CallR X (.builtin "sorted") (rBlt .sorted) := by
  intro pins s σ H xs us Q I r ⟨F, ds, z, hs, rs, hz, q⟩
  rcases ds with _ | ⟨d, _ | ⟨_, _⟩⟩
  · cases hz
  rotate_left
  · cases hz
  obtain ⟨x, rfl, rd⟩ := one_rep rs
  have hz : (match snap F.st d with
    | some (.lst ds) => if alikeAll (toPs ds) && sortB (toPs ds) && deepOk (toPs ds) && decide (ds.length ≤ line) then some (D.lst (ds.mergeSort (PySem.W.dataLe false toP))) else none
    | _ => none) = some z := hz
  split at hz
  · rename_i es hsn
    split at hz
    · rename_i c
      cases hz
      simp only [Bool.and_eq_true, decide_eq_true_eq] at c
      obtain ⟨⟨⟨c1, c2⟩, c3⟩, c4⟩ := c
      rw [line_eq] at c4
      rw [toPs_map] at c1 c2 c3
      -- the list, its items
      have it : items F.st d = some es := by
        unfold snap at hsn
        split at hsn
        · rename_i k
          split at hsn
          · rename_i fs e
            split at hsn
            · cases hsn
              show (match F.st[k]? with | some (.lst ds) => some ds | _ => none) = some es
              rw [e]
            · cases hsn
          · cases hsn
        · split at hsn
          · cases hsn
            rfl
          · cases hsn
      have hpu : pureDs es = true := by
        have := (snap_dp (K := X.K) hs rd hsn).2
        rw [pureD] at this
        exact this
      obtain ⟨a, vs, ea, ha, rs'⟩ := items_rep hs rd it
      subst ea
      obtain ⟨u, rfl, ru⟩ := vals_1 r
      cases ru
      obtain ⟨its, rv, pl, _⟩ := I.list (SqL.of ha)
      have er : PySem.W.EachIs (fun v b => ∃ as, Reads s.heap v (toP b) as) its es := by
        have go : ∀ (es : List D) (vs : List V) (its : List Value), pureDs es = true → Reps F H es vs → Vals vs its → PySem.W.EachIs (fun v b => ∃ as, Reads s.heap v (toP b) as) its es := by
          intro es
          induction es with
          | nil =>
            intro vs its _ r v
            rw [show vs = [] from r] at v
            cases v
            exact .nil
          | cons e es ih =>
            intro vs its hp r v
            obtain ⟨x, r', e1, h1, h2⟩ := r
            subst e1
            rw [pureDs, Bool.and_eq_true] at hp
            cases v with
            | cons v1 v2 => exact .cons (Dp.reads I _ _ _ (h1.dp _ _ hp.1) v1) (ih _ _ hp.2 h2 v2)
        exact go es vs its hpu rs' rv
      refine PySem.W.sorted_data (bs := es) (enc := toP) pl.isList (each_rep rs' rv) er ?_ ?_ c4 (fun b hb => ?_) fun out h1 h2 => ?_
      · intro p hp p' hp'
        unfold alikeAll at c1
        rw [List.all_eq_true] at c1
        have c1 := c1 p hp
        rw [List.all_eq_true] at c1
        exact c1 p' hp'
      · unfold sortB at c2
        rw [Bool.or_eq_true, List.all_eq_true, List.all_eq_true] at c2
        rcases c2 with c2 | c2
        · refine .inl fun p hp => ?_
          have c := c2 p hp
          split at c
          · exact ⟨_, _, rfl⟩
          · cases c
        · refine .inr fun p hp => ?_
          have c := c2 p hp
          split at c
          · cases c
          · cases c
          · rename_i h1 h2
            exact ⟨fun z => h1 z, fun ys z => h2 ys z⟩
      · unfold deepOk at c3
        rw [List.all_eq_true] at c3
        have c := c3 (toP b) (List.mem_map.mpr ⟨b, hb, rfl⟩)
        rw [decide_eq_true_eq] at c
        have := hr.un
        omega
      · obtain ⟨ws, q1, q2⟩ := rep_each h2
        obtain ⟨ep, he'⟩ := PyProof.Rows.sortedAll_at s.heap its (List.toArray out)
        have hp : H (s.heap.objs.size + 1) = none := I.hok.fresh (Nat.le_succ _)
        have hlen : ws.length ≤ sizeLine := by rw [q1.length, h1]; exact c4
        refine ⟨.ref _, upd H (s.heap.objs.size + 1) (.lst ws), I.laid (t' := s.toks) (fun _ _ => PyProof.Rows.sortedAll_old) (Nat.le_succ _) ⟨hlen, out, ep, q1, ?_⟩, rfl, q _ _ (Ext.fresh F _ hp) (hs.fresh _ hp) (Rep.newL hs hp q2)⟩
        simpa using he'
    · cases hz
  · cases hz
end
end MP
end
section
set_option maxRecDepth 100000
set_option maxHeartbeats 4000000
/-! MPSnd15: isinstance; list(range(..)). -/
namespace MP
open PySem L2
variable [Glo]
/-- a value's type -/
def tyOf (st : Store) : D → Option String
  | .non => some "NoneType"
  | .bl _ => some "bool"
  | .int _ => some "int"
  | .str _ => some "str"
  | .lst _ => some "list"
  | .tup _ => some "tuple"
  | .dic _ => some "dict"
  | .cel k => match st[k]? with
    | some (.lst _) => some "list"
    | some (.dic _) => some "dict"
    | _ => none
  | _ => none
def tyS : Ty → String
  | .int => "int"
  | .bool => "bool"
  | .str => "str"
  | .list => "list"
  | .tuple => "tuple"
  | .dict => "dict"
  | .exc _ => ""
  | .ver => ""
theorem kits : ∀ t ∈ [Ty.int, .bool, .str, .list, .tuple, .dict], ∀ a ∈ ["NoneType", "bool", "int", "str", "list", "tuple", "dict"], kitB a (tyS t) = some (decide (a = tyS t) || (decide (a = "bool") && decide (tyS t = "int"))) := by
  decide +kernel
theorem boots : ∀ t ∈ [Ty.int, .bool, .str, .list, .tuple, .dict], bootBuiltins (tyName t) = some (.type (tyS t)) ∧ tyName t ∈ bnames ∧ tyName t ≠ "__name__" ∧ (tyName t == ("__debug__" : Str)) = false := by
  decide +kernel
theorem ty_mem {t : Ty} (h : isE t = false) : t ∈ [Ty.int, .bool, .str, .list, .tuple, .dict] := by
  cases t <;> first | (simp; done) | cases h
section
variable {T : Tab} {C : Nat → Addr} {W : WX} {c : Cxt} {n : Nat} {se : SE} {X : Cx}
theorem okNm_ty {t : Ty} (h : isE t = false) (G : GX T C W c n se X) : X.mg (tyName t) = none := G.bl _ (boots t (ty_mem h)).2.1
theorem tyOf_one {K : PySem.W.Frag} {F : Fr} {H : Hp} {d : D} {v : V} {b : Bool} {t : Ty} (s : Sto F H) (r : Rep F H d v) (ht : isE t = false) (h : tyIs F.st t d = some b) : ∃ a, TyX K H v (.type a) ∧ ∀ t b, isE t = false → tyIs F.st t d = some b → kitB a (tyS t) = some b := by
  have fin : ∀ a, a ∈ ["NoneType", "bool", "int", "str", "list", "tuple", "dict"] → TyX K H v (.type a) → (∀ t b, isE t = false → tyIs F.st t d = some b → (decide (a = tyS t) || (decide (a = "bool") && decide (tyS t = "int"))) = b) → ∃ a, TyX K H v (.type a) ∧ ∀ t b, isE t = false → tyIs F.st t d = some b → kitB a (tyS t) = some b :=
    fun a ha x e => ⟨a, x, fun t b h1 h2 => by rw [kits t (ty_mem h1) a ha, e t b h1 h2]⟩
  cases d with
  | non =>
    rw [show v = V.non from r]
    rw [show v = V.non from r] at fin
    exact fin "NoneType" (by decide) (.base .non) fun t b h1 h2 => by cases t <;> first | (cases h1; done) | (cases h2; decide)
  | bl x =>
    rw [show v = V.bl x from r]
    rw [show v = V.bl x from r] at fin
    exact fin "bool" (by decide) (.base (.bl x)) fun t b h1 h2 => by cases t <;> first | (cases h1; done) | (cases h2; decide)
  | int x =>
    rw [show v = V.int x from r]
    rw [show v = V.int x from r] at fin
    exact fin "int" (by decide) (.base (.int x)) fun t b h1 h2 => by cases t <;> first | (cases h1; done) | (cases h2; decide)
  | str x =>
    rw [show v = V.str x from r]
    rw [show v = V.str x from r] at fin
    exact fin "str" (by decide) (.base (.str x)) fun t b h1 h2 => by cases t <;> first | (cases h1; done) | (cases h2; decide)
  | lst x =>
    obtain ⟨a, vs, e, _, ha, _⟩ := r
    subst e
    exact fin "list" (by decide) (.base (.lst ha)) fun t b h1 h2 => by cases t <;> first | (cases h1; done) | (cases h2; decide)
  | tup x =>
    obtain ⟨a, vs, e, _, ha, _⟩ := r
    subst e
    exact fin "tuple" (by decide) (.base (.tup ha)) fun t b h1 h2 => by cases t <;> first | (cases h1; done) | (cases h2; decide)
  | dic x =>
    obtain ⟨a, vs, e, _, ha, _⟩ := r
    subst e
    exact fin "dict" (by decide) (.base (.dK ha)) fun t b h1 h2 => by cases t <;> first | (cases h1; done) | (cases h2; decide)
  | cel k =>
    obtain ⟨e, _⟩ := r
    subst e
    have hh : ∀ t, tyIs F.st t (.cel k) = (match F.st[k]? with
      | some (.lst _) => some (match t with | .list => true | _ => false)
      | some (.dic _) => some (match t with | .dict => true | _ => false)
      | _ => none) := fun t => rfl
    rw [hh] at h
    split at h
    · rename_i ds e
      obtain ⟨vs, ha, _⟩ := s.ce k _ e
      exact fin "list" (by decide) (.base (.lst ha)) fun t b h1 h2 => by
        rw [hh, e] at h2
        cases t <;> first | (cases h1; done) | (cases h2; decide)
    · rename_i ds e
      obtain ⟨vs, ha, _⟩ := s.ce k _ e
      exact fin "dict" (by decide) (.base (.dK ha)) fun t b h1 h2 => by
        rw [hh, e] at h2
        cases t <;> first | (cases h1; done) | (cases h2; decide)
    · cases h
  | _ => cases h
/-- isinstance(y, T) -/
theorem pe_isiF (G : GX T C W c n se X) {t : Ty} (ht : isE t = false) {e : Ex} {y : Expr} {p q pos : Pos} (g1 : gloB se.sc "isinstance" = true) (g2 : gloB se.sc (tyName t) = true) (hy : PE X y (evT C W c e)) (hsy : isStar y = false) :
    PE X (.Call (.Name "isinstance" p) [y, .Name (tyName t) q] [] pos) (evT C W c (.blt (.isi t) (.cons e .nil))) := by
  obtain ⟨b1, b2, b3, b4⟩ := boots t (ty_mem ht)
  refine imp_e (pe_callB call_isi (gloB_ok (by rw [G.sc]; exact g1)) (G.bl _ (by decide)) PyProof.Rows.boot_isinstance (pa_cons hy (pa_cons (pe_bltn (v := .ty (tyS t)) (gloB_ok (by rw [G.sc]; exact g2)) (okNm_ty ht G) b1 rfl b3 b4) pa_nil) (star_cons hsy)) (by decide) (by decide) (star_cons hsy) (by rfl)) fun σ H Q ⟨F, ρ, hs, hl, w⟩ => ?_
  rw [ev, evs1, bind_assoc] at w
  refine ⟨F, ρ, hs, hl, (Aft.bind w).mono fun F1 H1 d v x1 s1 r1 q1 => ?_⟩
  have e1 : isiD F1.st t d = tyIs F1.st t d := by cases t <;> first | rfl | cases ht
  have q1 : Aft Rep C _ F1 H1 (ofO ((isiD F1.st t d).map D.bl) F1.st) _ := q1
  rw [e1] at q1
  cases hq : tyIs F1.st t d with
  | none => rw [hq] at q1; exact q1.elim
  | some b =>
    rw [hq] at q1
    obtain ⟨a, hx, hk⟩ := tyOf_one (K := X.K) s1 r1 ht hq
    exact ⟨v, .ty (tyS t), _, _, b, rfl, .ty (tyS t), hx, kit_ty (hk t b ht hq), q1.val s1 rfl⟩
/-- isinstance(y, (T, ..)) -/
theorem kit_all {K : PySem.W.Frag} {F : Fr} {H : Hp} {d : D} {v : V} {a : String} (s : Sto F H) (r : Rep F H d v) (hx : ∀ t b, isE t = false → tyIs F.st t d = some b → kitB a (tyS t) = some b) : ∀ {ts : List Ty} {b : Bool}, ts.all (fun t => !isE t) = true → tysIs F.st ts d = some b → PySem.W.kitAny K (.type a) (ts.map fun t => Value.type (tyS t)) = some b
  | [], b, _, h => by
    cases h
    exact kitAny_nil
  | t :: ts, b, ht, h => by
    rw [List.all_cons, Bool.and_eq_true, Bool.not_eq_true'] at ht
    have h : (match tyIs F.st t d, tysIs F.st ts d with
      | some a, some b => some (a || b)
      | _, _ => none) = some b := h
    split at h
    · rename_i x y e1 e2
      cases h
      have ih := kit_all (K := K) s r hx ht.2 e2
      refine kitAny_cons (kit_ty (hx t x ht.1 e1)) (fun hb => ?_) fun hb => ?_
      · subst hb
        exact ih
      · subst hb
        rfl
    · cases h
theorem vals_ty : ∀ ts : List Ty, Paired ClsV (ts.map fun t => V.ty (tyS t)) (ts.map fun t => Value.type (tyS t))
  | [] => .nil
  | t :: ts => .cons (.ty _) (vals_ty ts)
theorem pa_tys (G : GX T C W c n se X) : ∀ {ts : List Ty} {zs : List Expr}, zs.map asName = ts.map (fun t => some (tyName t)) → (∀ t ∈ ts, isE t = false ∧ gloB se.sc (tyName t) = true) → PA X zs (fun _ H Q => Q (ts.map fun t => V.ty (tyS t)) H)
  | [], [], _, _ => pa_nil
  | [], _ :: _, h, _ => by cases h
  | _ :: _, [], h, _ => by cases h
  | t :: ts, z :: zs, h, ht => by
    rw [List.map_cons, List.map_cons] at h
    injection h with h1 h2
    obtain ⟨q, rfl⟩ := asName_eq h1
    obtain ⟨k1, k2⟩ := ht t List.mem_cons_self
    obtain ⟨b1, b2, b3, b4⟩ := boots t (ty_mem k1)
    exact imp_a (pa_cons (pe_bltn (v := .ty (tyS t)) (gloB_ok (by rw [G.sc]; exact k2)) (okNm_ty k1 G) b1 rfl b3 b4) (pa_tys G h2 fun t ht' => ht t (List.mem_cons_of_mem _ ht'))) fun σ H Q w => w
theorem pe_isisF (G : GX T C W c n se X) {ts : List Ty} {zs : List Expr} {e : Ex} {y : Expr} {k : Nat} {p q pos : Pos} (g1 : gloB se.sc "isinstance" = true) (hz : zs.map asName = ts.map fun t => some (tyName t)) (ht : ∀ t ∈ ts, isE t = false ∧ gloB se.sc (tyName t) = true) (hne : ts ≠ []) (hl9 : ts.length ≤ line) (hy : PE X y (evT C W c e)) (hsy : isStar y = false) :
    PE X (.Call (.Name "isinstance" p) [y, .Tuple zs k q] [] pos) (evT C W c (.blt (.isis ts) (.cons e .nil))) := by
  refine imp_e (pe_callB call_isiT (gloB_ok (by rw [G.sc]; exact g1)) (G.bl _ (by decide)) PyProof.Rows.boot_isinstance (pa_cons hy (pa_cons (pe_tup (pa_tys G hz ht)) pa_nil) (star_cons hsy)) (by decide) (by decide) (star_cons hsy) (by rfl)) fun σ H Q ⟨F, ρ, hs, hl, w⟩ => ?_
  rw [ev, evs1, bind_assoc] at w
  refine ⟨F, ρ, hs, hl, (Aft.bind w).mono fun F1 H1 d v x1 s1 r1 q1 => ?_⟩
  have q1 : Aft Rep C _ F1 H1 (ofO ((tysIs F1.st ts d).map D.bl) F1.st) _ := q1
  refine ⟨by rw [List.length_map, ← line_eq]; exact hl9, fun p hp => ?_⟩
  cases hq : tysIs F1.st ts d with
  | none => rw [hq] at q1; exact q1.elim
  | some b =>
    rw [hq] at q1
    have xf := Ext.fresh F1 (.tup (ts.map fun t => V.ty (tyS t))) hp
    obtain ⟨t0, ts', e0⟩ := List.exists_cons_of_ne_nil hne
    have h0 : ∃ b0, tyIs F1.st t0 d = some b0 := by
      rw [e0] at hq
      have hq : (match tyIs F1.st t0 d, tysIs F1.st ts' d with
        | some a, some b => some (a || b)
        | _, _ => none) = some b := hq
      split at hq
      · rename_i e1 _
        exact ⟨_, e1⟩
      · cases hq
    obtain ⟨b0, h0⟩ := h0
    obtain ⟨a, hx, hk⟩ := tyOf_one (K := X.K) (s1.fresh _ hp) (r1.ext xf) (ht t0 (by rw [e0]; exact List.mem_cons_self)).1 h0
    refine ⟨v, p, _, _, _, b, rfl, upd_same, vals_ty ts, hx, kit_all s1 r1 hk ?_ hq, ?_⟩
    · rw [List.all_eq_true]
      intro t hm
      rw [(ht t hm).1]
      rfl
    · exact q1 F1 _ _ rfl xf (s1.fresh _ hp) rfl
/-! ### exceptions that are held -/
theorem exv_at {pins : List (Addr × Obj)} {s : Shared} {σ : L2.St} {F : Fr} {H : Hp} {k : Nat} {d : D} {v : V} (G : GX T C W c n se X) (I : L2.Inv X pins σ H s) (r : Rep F H (.exv k d) v) :
    k < T.exc.length ∧ ∃ a u o od w, v = .ref a ∧ PySem.W.InstAt s.heap a o (Glo.cl k) (some od) ∧ PySem.W.lookIn ("value" : Str) od = some (some w) ∧ RelV u w ∧ ExF X.K (Glo.cl k) ∧ Rep F H d u := by
  obtain ⟨hk, a, dx, u, e, _, ha, _, hd, hr⟩ := r
  rw [G.nx] at hk
  obtain ⟨_, _, ex⟩ := G.exc k _ (List.getElem?_eq_getElem hk)
  obtain ⟨⟨o, vs, h1, h2, h3, h4⟩, _⟩ := (show ObjOk X.prog X.w H s.heap a (ExAt (Glo.cl k) dx a) from I.hok a _ ha)
  have hx : ObjOk X.prog X.w H s.heap dx (.xd [(("value" : Str), u)]) := I.hok dx _ hd
  obtain ⟨mA, hns, hrel⟩ := hx
  obtain ⟨od, ho, hl⟩ := lookIn_ns hns
  obtain ⟨w, hw, rw'⟩ := RelO.some_of (v := u) (o := mA ("value" : Str)) (hrel ("value" : Str))
  exact ⟨hk, a, u, o, od, w, e, ⟨h1, h2, by unfold PySem.W.notCls; rw [h4] <;> rfl, by rw [h3]; exact ho⟩, by rw [hl, hw], rw', ex, hr⟩
/-- isinstance(y, C) of one that is held -/
theorem pe_isixF (G : GX T C W c n se X) {k : Nat} {e : Ex} {y : Expr} {x : Str} {p q pos : Pos} (g1 : gloB se.sc "isinstance" = true) (hx : T.exc[k]? = some x) (g2 : gloB se.sc x = true) (g3 : okNm x = true) (hy : PE X y (evT C W c e)) (hsy : isStar y = false) :
    PE X (.Call (.Name "isinstance" p) [y, .Name x q] [] pos) (evT C W c (.blt (.isi (.exc k)) (.cons e .nil))) := by
  obtain ⟨k1, _, _⟩ := okNm_ok g3
  obtain ⟨hm, _, _⟩ := G.exc k x hx
  have rule : CallR X (.builtin "isinstance") (fun xs H Q => ∃ F j d v b, xs = [v, .ref (Glo.cl k)] ∧ Rep F H (.exv j d) v ∧ b = (decide (j = k) || decide (k = 0)) ∧ Q (.bl b) H) := by
    intro pins s σ H xs us Q I r ⟨F, j, d, v, b, ex, rd, eb, qq⟩
    subst ex
    obtain ⟨hj, a, u, o, od, w, ev, J, _, _, ef, _⟩ := exv_at G I rd
    subst ev
    obtain ⟨u1, u2, rfl, r1, r2⟩ := vals2 r
    cases r1
    cases r2
    have hk : k < T.exc.length := (List.getElem?_eq_some_iff.mp hx).1
    have e1 := G.exk j k hj hk
    rw [← eb] at e1
    exact PySem.W.kia_one (PySem.W.kitx_exc ef.cls ef.ga ef.gt ef.sub ef.cl G.sp.1 G.sp.2 ef.ob) I.kIn J e1 (fun z => nomatch z) fun tk => ⟨.bl b, H, I.tok tk, rfl, qq⟩
  refine imp_e (pe_callB rule (gloB_ok (by rw [G.sc]; exact g1)) (G.bl _ (by decide)) PyProof.Rows.boot_isinstance (pa_cons hy (pa_cons (pe_glob (v := .ref (Glo.cl k)) (gloB_ok (by rw [G.sc]; exact g2)) hm rfl k1) pa_nil) (star_cons hsy)) (by decide) (by decide) (star_cons hsy) (by rfl)) fun σ H Q ⟨F, ρ, hs, hl, w⟩ => ?_
  rw [ev, evs1, bind_assoc] at w
  refine ⟨F, ρ, hs, hl, (Aft.bind w).mono fun F1 H1 d v x1 s1 r1 q1 => ?_⟩
  have q1 : Aft Rep C _ F1 H1 (ofO ((isX k d).map D.bl) F1.st) _ := q1
  cases d with
  | exv j d => exact ⟨F1, j, d, v, _, rfl, r1, rfl, q1.val s1 rfl⟩
  | _ => exact q1.elim
/-- isinstance(y, ValueError) of one that is held -/
theorem pe_isivF (G : GX T C W c n se X) {e : Ex} {y : Expr} {p q pos : Pos} (g1 : gloB se.sc "isinstance" = true) (g2 : gloB se.sc "ValueError" = true) (hy : PE X y (evT C W c e)) (hsy : isStar y = false) :
    PE X (.Call (.Name "isinstance" p) [y, .Name "ValueError" q] [] pos) (evT C W c (.blt (.isi .ver) (.cons e .nil))) := by
  have rule : CallR X (.builtin "isinstance") (fun xs H Q => ∃ F j d v, xs = [v, .ty "ValueError"] ∧ Rep F H (.exv j d) v ∧ Q (.bl true) H) := by
    intro pins s σ H xs us Q I r ⟨F, j, d, v, ex, rd, qq⟩
    subst ex
    obtain ⟨hj, a, u, o, od, w, ev, J, _, _, ef, _⟩ := exv_at G I rd
    subst ev
    obtain ⟨u1, u2, rfl, r1, r2⟩ := vals2 r
    cases r1
    cases r2
    exact PySem.W.kia_one (PySem.W.kitx_exc ef.cls ef.ga ef.gt ef.sub ef.cl G.sp.1 G.sp.2 ef.ob) I.kIn J ef.ver (fun z => nomatch z) fun tk => ⟨.bl true, H, I.tok tk, rfl, qq⟩
  refine imp_e (pe_callB rule (gloB_ok (by rw [G.sc]; exact g1)) (G.bl _ (by decide)) PyProof.Rows.boot_isinstance (pa_cons hy (pa_cons (pe_bltn (v := .ty "ValueError") (gloB_ok (by rw [G.sc]; exact g2)) (G.bl _ (by decide)) (by decide +kernel) rfl (by decide) (by decide)) pa_nil) (star_cons hsy)) (by decide) (by decide) (star_cons hsy) (by rfl)) fun σ H Q ⟨F, ρ, hs, hl, w⟩ => ?_
  rw [ev, evs1, bind_assoc] at w
  refine ⟨F, ρ, hs, hl, (Aft.bind w).mono fun F1 H1 d v x1 s1 r1 q1 => ?_⟩
  have q1 : Aft Rep C _ F1 H1 (ofO ((isV d).map D.bl) F1.st) _ := q1
  cases d with
  | exv j d => exact ⟨F1, j, d, v, rfl, r1, q1.val s1 rfl⟩
  | _ => exact q1.elim
/-- e.value of one that is held -/
theorem pe_valF (G : GX T C W c n se X) {e : Ex} {y : Expr} {pos : Pos} (hy : PE X y (evT C W c e)) (hb : baseB y = true) : PE X (.Attribute y "value" pos) (evT C W c (.val e)) := by
  refine ⟨fun pins s σ H Q I ⟨F, ρ, hs, hl, w⟩ => ?_⟩
  rw [ev] at w
  refine attr_of (baseB_ok hb) (thn (hy.run pins s σ H (fun v H1 => ∃ F1 k d, Sto F1 H1 ∧ Rep F1 H1 (.exv k d) v ∧ ∀ u, Rep F1 H1 d u → Q u H1) I ⟨F, ρ, hs, hl, (Aft.bind w).mono fun F1 H1 d v x1 s1 r1 q1 => ?_⟩) fun u s1 ⟨v, H1, I1, r1, F1, k, d, s1', rd, q⟩ => ?_)
  · cases d with
    | exv k d => exact ⟨F1, k, d, s1, r1, fun u r => q1.val s1 r⟩
    | _ => exact q1.elim
  · obtain ⟨hk, a, u', o, od, wv, ev, J, hl, ru, ef, hr⟩ := exv_at G I1 rd
    subst ev
    obtain rfl : u = Value.ref a := r1
    exact HandSPX.exc_get I1.kIn J ef.ga ef.gt ef.sub (PySem.W.findObj_own ef.dct ef.val rfl hl) (handed_of ru) ⟨u', H1, I1.tok _, ru, q u' hr⟩
end
end MP
end
section
set_option maxRecDepth 100000
set_option maxHeartbeats 4000000
/-! MPSnd16: cells: written, new, frozen; methods. -/
namespace MP
open PySem L2
variable [Glo]
theorem live_set {st : Store} {k j : Nat} {o o' : Cell} (h : st[k]? = some o) (ho : o ≠ .gone) (l : Live (st.set k o') j) : Live st j := by
  obtain ⟨c, e, hc⟩ := l
  rw [List.getElem?_set] at e
  by_cases hj : k = j
  · subst hj
    exact ⟨o, h, ho⟩
  · rw [if_neg hj] at e
    exact ⟨c, e, hc⟩
theorem tab_cell {F : Fr} {H : Hp} {k : Nat} {o : Cell} (s : Sto F H) (h : F.st[k]? = some o) (ho : o ≠ .gone) (w : HO) : LamX.Tabs Glo.tabs (upd H (F.al k) w) := by
  have q := s.ce k o h
  cases o with
  | lst ds =>
    obtain ⟨vs, e, _⟩ := q
    exact tabs_upd s.tab e
  | dic ds =>
    obtain ⟨vs, e, _⟩ := q
    exact tabs_upd s.tab e
  | gone => exact absurd rfl ho
/-- a cell is written -/
theorem cell_write {F : Fr} {H : Hp} {k : Nat} {o : Cell} {ds : List D} {vs : List V} (s : Sto F H) (h : F.st[k]? = some o) (ho : o ≠ .gone) (r : Reps F H ds vs) :
    Ext F H { F with st := F.st.set k (.lst ds) } (upd H (F.al k) (.lst vs)) ∧ Sto { F with st := F.st.set k (.lst ds) } (upd H (F.al k) (.lst vs)) := by
  have lk : Live F.st k := ⟨o, h, ho⟩
  have hk := lk.lt
  have hat : ∃ u, H (F.al k) = some u := Option.ne_none_iff_exists'.mp (s.there lk)
  obtain ⟨u, hu⟩ := hat
  have x : Ext F H { F with st := F.st.set k (.lst ds) } (upd H (F.al k) (.lst vs)) := by
    refine ⟨fun _ _ => rfl, fun _ _ => Iff.rfl, by simp, fun j _ l => live_set h ho l, fun j hj l => absurd (live_set h ho l).lt (Nat.not_lt.mpr hj), fun a e => ?_, fun a w e ht hn => ?_⟩
    · by_cases q : a = F.al k
      · rw [q, upd_same] at e; cases e
      · rw [upd_ne q] at e; exact e
    · rw [upd_ne fun q => hn k lk q.symm]
      exact e
  refine ⟨x, fun j c e => ?_, fun i j li lj => s.inj i j (live_set h ho li) (live_set h ho lj), fun j l => s.nex j (live_set h ho l), fun a l e => s.ext a l (x.there a e), tab_cell s h ho _, fun a l => by rw [upd_ne fun z => s.nex k lk (by rw [← z]; exact l)]; exact s.exl a l⟩
  have e : (F.st.set k (.lst ds))[j]? = some c := e
  rw [List.getElem?_set] at e
  by_cases hj : k = j
  · subst hj
    rw [if_pos rfl, if_pos hk] at e
    cases e
    exact ⟨vs, upd_same, r.ext x⟩
  · rw [if_neg hj] at e
    by_cases hc : c = .gone
    · subst hc; trivial
    · have lj : Live F.st j := ⟨c, e, hc⟩
      have hne : F.al j ≠ F.al k := fun q => hj (s.inj j k lj lk q).symm
      have q := s.ce j c e
      have eq : upd H (F.al k) (.lst vs) (F.al j) = H (F.al j) := upd_ne hne
      cases c with
      | lst es =>
        obtain ⟨ws, q1, r'⟩ := q
        exact ⟨ws, eq.trans q1, r'.ext x⟩
      | dic es =>
        obtain ⟨ws, q1, r'⟩ := q
        exact ⟨ws, eq.trans q1, r'.ext x⟩
      | gone => trivial
/-- a dict's cell is written -/
theorem cell_writeD {F : Fr} {H : Hp} {k : Nat} {o : Cell} {ds : List (Key × D)} {vs : List (Key × V)} (s : Sto F H) (h : F.st[k]? = some o) (ho : o ≠ .gone) (r : RepK F H ds vs) :
    Ext F H { F with st := F.st.set k (.dic ds) } (upd H (F.al k) (.dK vs)) ∧ Sto { F with st := F.st.set k (.dic ds) } (upd H (F.al k) (.dK vs)) := by
  have lk : Live F.st k := ⟨o, h, ho⟩
  have hk := lk.lt
  have hat : ∃ u, H (F.al k) = some u := Option.ne_none_iff_exists'.mp (s.there lk)
  obtain ⟨u, hu⟩ := hat
  have x : Ext F H { F with st := F.st.set k (.dic ds) } (upd H (F.al k) (.dK vs)) := by
    refine ⟨fun _ _ => rfl, fun _ _ => Iff.rfl, by simp, fun j _ l => live_set h ho l, fun j hj l => absurd (live_set h ho l).lt (Nat.not_lt.mpr hj), fun a e => ?_, fun a w e ht hn => ?_⟩
    · by_cases q : a = F.al k
      · rw [q, upd_same] at e; cases e
      · rw [upd_ne q] at e; exact e
    · rw [upd_ne fun q => hn k lk q.symm]
      exact e
  refine ⟨x, fun j c e => ?_, fun i j li lj => s.inj i j (live_set h ho li) (live_set h ho lj), fun j l => s.nex j (live_set h ho l), fun a l e => s.ext a l (x.there a e), tab_cell s h ho _, fun a l => by rw [upd_ne fun z => s.nex k lk (by rw [← z]; exact l)]; exact s.exl a l⟩
  have e : (F.st.set k (.dic ds))[j]? = some c := e
  rw [List.getElem?_set] at e
  by_cases hj : k = j
  · subst hj
    rw [if_pos rfl, if_pos hk] at e
    cases e
    exact ⟨vs, upd_same, r.ext x⟩
  · rw [if_neg hj] at e
    by_cases hc : c = .gone
    · subst hc; trivial
    · have lj : Live F.st j := ⟨c, e, hc⟩
      have hne : F.al j ≠ F.al k := fun q => hj (s.inj j k lj lk q).symm
      have q := s.ce j c e
      have eq : upd H (F.al k) (.dK vs) (F.al j) = H (F.al j) := upd_ne hne
      cases c with
      | lst es =>
        obtain ⟨ws, q1, r'⟩ := q
        exact ⟨ws, eq.trans q1, r'.ext x⟩
      | dic es =>
        obtain ⟨ws, q1, r'⟩ := q
        exact ⟨ws, eq.trans q1, r'.ext x⟩
      | gone => trivial
/-- the frame with a new cell at p -/
def Fr.new (F : Fr) (p : Addr) (c : Cell) : Fr := { F with al := fun j => if j = F.st.length then p else F.al j, st := F.st ++ [c] }
theorem new_get {st : Store} {c : Cell} {j : Nat} {o : Cell} (h : (st ++ [c])[j]? = some o) : (j < st.length ∧ st[j]? = some o) ∨ (j = st.length ∧ o = c) := by
  by_cases hj : j < st.length
  · rw [List.getElem?_append_left hj] at h
    exact .inl ⟨hj, h⟩
  · rw [List.getElem?_append_right (Nat.le_of_not_lt hj)] at h
    have hz : j - st.length = 0 := by
      cases q : j - st.length with
      | zero => rfl
      | succ m => rw [q] at h; simp at h
    rw [hz] at h
    cases h
    exact .inr ⟨by omega, rfl⟩
/-- a new cell: what stands at p was nobody's -/
theorem cell_new {F G : Fr} {H H1 : Hp} {p : Addr} {ds : List D} {vs : List V} (x : Ext F H G H1) (s : Sto G H1) (hp : H p = none) (hx : G.ex p) (hv : H1 p = some (.lst vs)) (r : Reps G H1 ds vs) :
    Ext F H ((G.rem p).new p (.lst ds)) H1 ∧ Sto ((G.rem p).new p (.lst ds)) H1 ∧ Rep ((G.rem p).new p (.lst ds)) H1 (.cel G.st.length) (.ref p) := by
  have alo : ∀ {j}, j < G.st.length → ((G.rem p).new p (.lst ds)).al j = G.al j := fun {j} hj => if_neg (Nat.ne_of_lt hj)
  have aln : ((G.rem p).new p (.lst ds)).al G.st.length = p := if_pos rfl
  have lv : ∀ {j}, Live (G.st ++ [.lst ds]) j → (j < G.st.length ∧ Live G.st j) ∨ j = G.st.length := fun {j} ⟨o, e, ho⟩ => by
    rcases new_get e with ⟨hj, e⟩ | ⟨e, _⟩
    · exact .inl ⟨hj, o, e, ho⟩
    · exact .inr e
  have un : ∀ a, ((G.rem p).new p (.lst ds)).un a → G.un a := by
    rintro a (q | ⟨k, l, q⟩)
    · exact .inl q.1
    · rcases lv l with ⟨hj, l⟩ | e
      · rw [alo hj] at q
        exact .inr ⟨k, l, q⟩
      · subst e
        rw [aln] at q
        exact .inl (q ▸ hx)
  have le : G.st.length ≤ ((G.rem p).new p (.lst ds)).st.length := by
    show G.st.length ≤ (G.st ++ [_]).length
    rw [List.length_append]
    exact Nat.le_add_right _ _
  obtain ⟨r1, r2, r3⟩ := Rep.less (F := G) (G := (G.rem p).new p (.lst ds)) (H := H1) (fun k hk => alo hk) le un
  refine ⟨⟨fun k hk => (alo (Nat.lt_of_lt_of_le hk x.len)).trans (x.al k hk), (x.rem hp).ex, Nat.le_trans x.len le, fun k hk l => ?_, fun k hk l => ?_, x.there, x.keep⟩, ⟨fun k c e => ?_, fun i j li lj q => ?_, fun k l q => ?_, fun a q => s.ext a q.1, s.tab, fun a q => s.exl a q.1⟩, congrArg V.ref aln.symm, ?_⟩
  · rcases lv l with ⟨_, l⟩ | e
    · exact x.lv k hk l
    · exact absurd (Nat.lt_of_lt_of_le hk x.len) (by rw [e]; exact Nat.lt_irrefl _)
  · rcases lv l with ⟨hj, l⟩ | e
    · rw [alo hj]
      exact x.new k hk l
    · rw [e, aln]
      exact hp
  · have e : (G.st ++ [.lst ds])[k]? = some c := e
    rcases new_get e with ⟨hj, e⟩ | ⟨e, ec⟩
    · have q := s.ce k c e
      rw [alo hj]
      cases c with
      | lst es =>
        obtain ⟨ws, q1, r'⟩ := q
        exact ⟨ws, q1, r2 _ _ r'⟩
      | dic es =>
        obtain ⟨ws, q1, r'⟩ := q
        exact ⟨ws, q1, r3 _ _ r'⟩
      | gone => trivial
    · subst e ec
      rw [aln]
      exact ⟨vs, hv, r2 _ _ r⟩
  · have nx : ∀ {j}, Live G.st j → G.al j ≠ p := fun {j} l e => s.nex j l (by rw [e]; exact hx)
    rcases lv li with ⟨hi, li⟩ | ei <;> rcases lv lj with ⟨hj, lj⟩ | ej
    · rw [alo hi, alo hj] at q
      exact s.inj i j li lj q
    · rw [alo hi, ej, aln] at q
      exact absurd q (nx li)
    · rw [ei, aln, alo hj] at q
      exact absurd q.symm (nx lj)
    · rw [ei, ej]
  · obtain ⟨q, qn⟩ := q
    rcases lv l with ⟨hj, l⟩ | e
    · rw [alo hj] at q
      exact s.nex k l q
    · rw [e, aln] at qn
      exact qn rfl
  · show G.st.length < (G.st ++ [_]).length
    simp
/-- .. where p is a new place -/
theorem cell_fresh {F : Fr} {H : Hp} {p : Addr} {ds : List D} {vs : List V} (s : Sto F H) (hp : H p = none) (r : Reps F H ds vs) :
    ∃ F' : Fr, F'.st = F.st ++ [.lst ds] ∧ Ext F H F' (upd H p (.lst vs)) ∧ Sto F' (upd H p (.lst vs)) ∧ Rep F' (upd H p (.lst vs)) (.cel F.st.length) (.ref p) := by
  have x : Ext F H (F.add p) (upd H p (.lst vs)) := Ext.add (Ext.fresh F _ hp) hp
  exact ⟨((F.add p).rem p).new p (.lst ds), rfl, cell_new x (s.start _ hp) hp (.inr rfl) upd_same (r.ext x)⟩
theorem cell_newD {F G : Fr} {H H1 : Hp} {p : Addr} {ds : List (Key × D)} {vs : List (Key × V)} (x : Ext F H G H1) (s : Sto G H1) (hp : H p = none) (hx : G.ex p) (hv : H1 p = some (.dK vs)) (r : RepK G H1 ds vs) :
    Ext F H ((G.rem p).new p (.dic ds)) H1 ∧ Sto ((G.rem p).new p (.dic ds)) H1 ∧ Rep ((G.rem p).new p (.dic ds)) H1 (.cel G.st.length) (.ref p) := by
  have alo : ∀ {j}, j < G.st.length → ((G.rem p).new p (.dic ds)).al j = G.al j := fun {j} hj => if_neg (Nat.ne_of_lt hj)
  have aln : ((G.rem p).new p (.dic ds)).al G.st.length = p := if_pos rfl
  have lv : ∀ {j}, Live (G.st ++ [.dic ds]) j → (j < G.st.length ∧ Live G.st j) ∨ j = G.st.length := fun {j} ⟨o, e, ho⟩ => by
    rcases new_get e with ⟨hj, e⟩ | ⟨e, _⟩
    · exact .inl ⟨hj, o, e, ho⟩
    · exact .inr e
  have un : ∀ a, ((G.rem p).new p (.dic ds)).un a → G.un a := by
    rintro a (q | ⟨k, l, q⟩)
    · exact .inl q.1
    · rcases lv l with ⟨hj, l⟩ | e
      · rw [alo hj] at q
        exact .inr ⟨k, l, q⟩
      · subst e
        rw [aln] at q
        exact .inl (q ▸ hx)
  have le : G.st.length ≤ ((G.rem p).new p (.dic ds)).st.length := by
    show G.st.length ≤ (G.st ++ [_]).length
    rw [List.length_append]
    exact Nat.le_add_right _ _
  obtain ⟨r1, r2, r3⟩ := Rep.less (F := G) (G := (G.rem p).new p (.dic ds)) (H := H1) (fun k hk => alo hk) le un
  refine ⟨⟨fun k hk => (alo (Nat.lt_of_lt_of_le hk x.len)).trans (x.al k hk), (x.rem hp).ex, Nat.le_trans x.len le, fun k hk l => ?_, fun k hk l => ?_, x.there, x.keep⟩, ⟨fun k c e => ?_, fun i j li lj q => ?_, fun k l q => ?_, fun a q => s.ext a q.1, s.tab, fun a q => s.exl a q.1⟩, congrArg V.ref aln.symm, ?_⟩
  · rcases lv l with ⟨_, l⟩ | e
    · exact x.lv k hk l
    · exact absurd (Nat.lt_of_lt_of_le hk x.len) (by rw [e]; exact Nat.lt_irrefl _)
  · rcases lv l with ⟨hj, l⟩ | e
    · rw [alo hj]
      exact x.new k hk l
    · rw [e, aln]
      exact hp
  · have e : (G.st ++ [.dic ds])[k]? = some c := e
    rcases new_get e with ⟨hj, e⟩ | ⟨e, ec⟩
    · have q := s.ce k c e
      rw [alo hj]
      cases c with
      | lst es =>
        obtain ⟨ws, q1, r'⟩ := q
        exact ⟨ws, q1, r2 _ _ r'⟩
      | dic es =>
        obtain ⟨ws, q1, r'⟩ := q
        exact ⟨ws, q1, r3 _ _ r'⟩
      | gone => trivial
    · subst e ec
      rw [aln]
      exact ⟨vs, hv, r3 _ _ r⟩
  · have nx : ∀ {j}, Live G.st j → G.al j ≠ p := fun {j} l e => s.nex j l (by rw [e]; exact hx)
    rcases lv li with ⟨hi, li⟩ | ei <;> rcases lv lj with ⟨hj, lj⟩ | ej
    · rw [alo hi, alo hj] at q
      exact s.inj i j li lj q
    · rw [alo hi, ej, aln] at q
      exact absurd q (nx li)
    · rw [ei, aln, alo hj] at q
      exact absurd q.symm (nx lj)
    · rw [ei, ej]
  · obtain ⟨q, qn⟩ := q
    rcases lv l with ⟨hj, l⟩ | e
    · rw [alo hj] at q
      exact s.nex k l q
    · rw [e, aln] at qn
      exact qn rfl
  · show G.st.length < (G.st ++ [_]).length
    simp
theorem cell_freshD {F : Fr} {H : Hp} {p : Addr} {ds : List (Key × D)} {vs : List (Key × V)} (s : Sto F H) (hp : H p = none) (r : RepK F H ds vs) :
    ∃ F' : Fr, F'.st = F.st ++ [.dic ds] ∧ Ext F H F' (upd H p (.dK vs)) ∧ Sto F' (upd H p (.dK vs)) ∧ Rep F' (upd H p (.dK vs)) (.cel F.st.length) (.ref p) := by
  have x : Ext F H (F.add p) (upd H p (.dK vs)) := Ext.add (Ext.fresh F _ hp) hp
  exact ⟨((F.add p).rem p).new p (.dic ds), rfl, cell_newD x (s.start _ hp) hp (.inr rfl) upd_same (r.ext x)⟩
/-- a cell that is frozen -/
theorem cell_frz {F : Fr} {H : Hp} {k : Nat} {ds : List D} {v : V} (s : Sto F H) (h : F.st[k]? = some (.lst ds)) (r : Rep F H (.cel k) v) :
    Ext F H { F with st := F.st.set k .gone } H ∧ Sto { F with st := F.st.set k .gone } H ∧ Rep { F with st := F.st.set k .gone } H (.lst ds) v := by
  obtain ⟨e, hk⟩ := r
  have lk : Live F.st k := ⟨_, h, fun z => nomatch z⟩
  have x : Ext F H { F with st := F.st.set k .gone } H := ⟨fun _ _ => rfl, fun _ _ => Iff.rfl, by simp, fun j _ l => live_set h (fun z => nomatch z) l, fun j hj l => absurd (live_set h (fun z => nomatch z) l).lt (Nat.not_lt.mpr hj), fun _ e => e, fun _ _ e _ _ => e⟩
  obtain ⟨vs, ha, rs⟩ := s.ce k _ h
  refine ⟨x, ⟨fun j c ej => ?_, fun i j li lj => s.inj i j (live_set h (fun z => nomatch z) li) (live_set h (fun z => nomatch z) lj), fun j l => s.nex j (live_set h (fun z => nomatch z) l), s.ext, s.tab, s.exl⟩, F.al k, vs, e, ?_, ha, rs.ext x⟩
  · have ej : (F.st.set k .gone)[j]? = some c := ej
    rw [List.getElem?_set] at ej
    by_cases hj : k = j
    · subst hj
      rw [if_pos rfl, if_pos hk] at ej
      cases ej
      trivial
    · rw [if_neg hj] at ej
      have q := s.ce j c ej
      cases c with
      | lst es =>
        obtain ⟨ws, q1, r'⟩ := q
        exact ⟨ws, q1, r'.ext x⟩
      | dic es =>
        obtain ⟨ws, q1, r'⟩ := q
        exact ⟨ws, q1, r'.ext x⟩
      | gone => trivial
  · rintro (q | ⟨j, l, q⟩)
    · exact s.nex k lk q
    · have lj := live_set h (fun z => nomatch z) l
      have ejk := s.inj j k lj lk q
      subst ejk
      obtain ⟨o, eo, ho⟩ := l
      have eo : (F.st.set j .gone)[j]? = some o := eo
      rw [List.getElem?_set, if_pos rfl, if_pos hk] at eo
      cases eo
      exact ho rfl
end MP
end
section
set_option maxRecDepth 100000
set_option maxHeartbeats 4000000
/-! MPSnd17: methods; list(range(..)); new cells. -/
namespace MP
open PySem L2
variable [Glo]
def rMt (m : Mt) : V → List V → Hp → VK → Prop := fun x xs H Q => ∃ F d ds z st', Sto F H ∧ Rep F H d x ∧ Reps F H ds xs ∧ metD F.st m d ds = some (z, st') ∧ ∀ F' H' v, F'.st = st' → Ext F H F' H' → Sto F' H' → Rep F' H' z v → Q v H'
theorem Reps.dropLast {F : Fr} {H : Hp} {ds : List D} {vs : List V} (r : Reps F H ds vs) : Reps F H ds.dropLast vs.dropLast := by
  rw [List.dropLast_eq_take, List.dropLast_eq_take, r.length]
  exact r.take _
theorem Reps.erase {F : Fr} {H : Hp} {ds : List D} {vs : List V} (j : Nat) (r : Reps F H ds vs) : Reps F H (ds.eraseIdx j) (vs.eraseIdx j) := by
  rw [List.eraseIdx_eq_take_drop_succ, List.eraseIdx_eq_take_drop_succ]
  exact (r.take _).append (r.drop _)
theorem cel_at {F : Fr} {H : Hp} {k : Nat} {v : V} {ds : List D} (s : Sto F H) (r : Rep F H (.cel k) v) (h : F.st[k]? = some (.lst ds)) : ∃ vs, v = .ref (F.al k) ∧ H (F.al k) = some (.lst vs) ∧ Reps F H ds vs := by
  obtain ⟨e, _⟩ := r
  obtain ⟨vs, ha, rs⟩ := s.ce k _ h
  exact ⟨vs, e, ha, rs⟩
section
variable {X : Cx} {n : Nat}
theorem mt_appendF : MtR X "list.append" (rMt .append) := by
  intro pins s σ H x xs v us Q I rx rxs ⟨F, d, ds, z, st', hs, rd, rs, hm, q⟩
  rcases ds with _ | ⟨e, _ | ⟨_, _⟩⟩
  · cases d <;> cases hm
  rotate_left
  · cases d <;> cases hm
  obtain ⟨y, rfl, re⟩ := one_rep rs
  cases d with
  | cel k =>
    have hm : (match F.st[k]? with
      | some (.lst ds) => if ds.length < line then some (D.non, F.st.set k (.lst (ds ++ [e]))) else none
      | _ => none) = some (z, st') := hm
    split at hm
    · rename_i es hk
      split at hm
      · rename_i hl
        cases hm
        obtain ⟨vs, ev, ha, rv⟩ := cel_at hs rd hk
        rw [line_eq, rv.length] at hl
        obtain ⟨x1, s1⟩ := cell_write hs hk (fun z => nomatch z) (rv.append (Reps.one re))
        exact mt_append pins s σ H x _ v us Q I rx rxs ⟨_, vs, y, ev, rfl, ha, hl, q _ _ .non rfl x1 s1 rfl⟩
      · cases hm
    · cases hm
  | _ => cases hm
theorem mt_popF : MtR X "list.pop" (rMt .pop) := by
  intro pins s σ H x xs v us Q I rx rxs ⟨F, d, ds, z, st', hs, rd, rs, hm, q⟩
  rcases ds with _ | ⟨e, _⟩
  rotate_left
  · cases d <;> cases hm
  have ex : xs = [] := rs
  subst ex
  cases d with
  | cel k =>
    have hm : (match F.st[k]? with
      | some (.lst ds) => (ds[ds.length - 1]?).map fun y => (y, F.st.set k (.lst ds.dropLast))
      | _ => none) = some (z, st') := hm
    split at hm
    · rename_i es hk
      cases hy : es[es.length - 1]? with
      | none => rw [hy] at hm; cases hm
      | some y =>
        rw [hy] at hm
        cases hm
        obtain ⟨vs, ev, ha, rv⟩ := cel_at hs rd hk
        obtain ⟨x1, s1⟩ := cell_write hs hk (fun z => nomatch z) rv.dropLast
        obtain ⟨u, hu, ru⟩ := rv.get hy
        rw [rv.length] at hu
        exact mt_pop pins s σ H x _ v us Q I rx rxs ⟨_, vs, u, ev, rfl, ha, hu, q _ _ u rfl x1 s1 (ru.ext x1)⟩
    · cases hm
  | _ => cases hm
theorem mt_popAtF : MtR X "list.pop" (rMt .popAt) := by
  intro pins s σ H x xs v us Q I rx rxs ⟨F, d, ds, z, st', hs, rd, rs, hm, q⟩
  rcases ds with _ | ⟨e, _ | ⟨_, _⟩⟩
  · cases d <;> cases hm
  rotate_left
  · cases e <;> cases d <;> cases hm
  obtain ⟨y, rfl, re⟩ := one_rep rs
  cases e with
  | int i =>
    cases d with
    | cel k =>
      have hm : (match F.st[k]? with
        | some (.lst ds) => if ds.length ≤ line then (match L2.ixN ds.length i with
          | some j => (ds[j]?).map fun y => (y, F.st.set k (.lst (ds.eraseIdx j)))
          | none => none) else none
        | _ => none) = some (z, st') := hm
      split at hm
      · rename_i es hk
        split at hm
        · rename_i hl
          split at hm
          · rename_i j hj
            cases hy : es[j]? with
            | none => rw [hy] at hm; cases hm
            | some y' =>
              rw [hy] at hm
              cases hm
              obtain ⟨vs, ev, ha, rv⟩ := cel_at hs rd hk
              obtain ⟨x1, s1⟩ := cell_write hs hk (fun z => nomatch z) (rv.erase j)
              obtain ⟨u, hu, ru⟩ := rv.get hy
              obtain ⟨h1, h2, h3, h4⟩ := ixN_seq hj
              have hl : es.length ≤ 16777216 := hl
              refine mt_popAt pins s σ H x _ v us Q I rx rxs ⟨_, vs, i, j, u, ev, by rw [show y = _ from re], ha, by omega, by omega, by rw [← rv.length]; exact h1, hu, q _ _ u rfl x1 s1 (ru.ext x1)⟩
          · cases hm
        · cases hm
      · cases hm
    | _ => cases hm
  | _ => cases d <;> cases hm
theorem idxD_spec {x : PyData} : ∀ {ys : List PyData} {n m : Nat}, idxD x ys n = some m → ∃ j z, m = n + j ∧ ys[j]? = some z ∧ PyData.eqv z x = true ∧ ∀ (i : Nat) (z' : PyData), i < j → ys[i]? = some z' → PyData.eqv z' x = false
  | [], _, _, h => by cases h
  | y :: r, n, m, h => by
    have h : (if PyData.eqv y x then some n else idxD x r (n + 1)) = some m := h
    split at h
    · rename_i hy
      cases h
      exact ⟨0, y, rfl, rfl, hy, fun i _ hi => absurd hi (Nat.not_lt_zero _)⟩
    · rename_i hy
      obtain ⟨j, z, e, h1, h2, h3⟩ := idxD_spec h
      refine ⟨j + 1, z, by omega, h1, h2, fun i z' hi hz => ?_⟩
      cases i with
      | zero =>
        have e : y = z' := by simpa using hz
        subst e
        simpa using hy
      | succ i => exact h3 i z' (by omega) (by simpa using hz)
theorem mt_indexF (hr : Room n X.A) : MtR X "list.index" (rMt .index) := by
  intro pins s σ H x xs v us Q I rx rxs ⟨F, d, ds, z, st', hs, rd, rs, hm, q⟩
  rcases ds with _ | ⟨e, _ | ⟨_, _⟩⟩
  · cases hm
  rotate_left
  · cases hm
  obtain ⟨y, rfl, re⟩ := one_rep rs
  have hm : (match snap F.st d, snap F.st e with
    | some (.lst ds), some y => if SeqAt.shaped (.list (toPs ds)) && SeqAt.shaped (toP y) then (idxD (toP y) (toPs ds) 0).map fun (n : Nat) => (D.int (n : Int), F.st) else none
    | _, _ => none) = some (z, st') := hm
  split at hm
  · rename_i es y' h1 h2
    split at hm
    · rename_i hsh
      rw [Bool.and_eq_true] at hsh
      cases hi : idxD (toP y') (toPs es) 0 with
      | none => rw [hi] at hm; cases hm
      | some m =>
        rw [hi] at hm
        cases hm
        obtain ⟨j, z, e1, e2, e3, e4⟩ := idxD_spec hi
        rw [Nat.zero_add] at e1
        subst e1
        have dp := (snap_dp (K := X.K) hs rd h1).1
        rw [toP] at dp
        have hxa : ∃ a, x = .ref a := by
          cases dp with
          | lst h _ => exact ⟨_, rfl⟩
        obtain ⟨a, ea⟩ := hxa
        subst ea
        exact mt_indexD (room64 hr) pins s σ H _ _ v us Q I rx rxs ⟨a, y, toP y', toPs es, m, z, rfl, rfl, dp, (snap_dp hs re h2).1, hsh.1, hsh.2, e2, e3, e4, q F H _ rfl (Ext.refl F H) hs rfl⟩
    · cases hm
  · cases hm
theorem mt_splitF : MtR X "str.split" (rMt .split) := by
  intro pins s σ H x xs v us Q I rx rxs ⟨F, d, ds, z, st', hs, rd, rs, hm, q⟩
  rcases ds with _ | ⟨e, _ | ⟨_, _⟩⟩
  · cases hm
  rotate_left
  · cases e <;> cases hm
  obtain ⟨y, rfl, re⟩ := one_rep rs
  cases e with
  | str b =>
    cases d with
    | str a =>
      have hm : (if decide (0 < b.length) && decide (a.length + 2 ≤ line) then some (D.lst ((Txt.split a b).map .str), F.st) else none) = some (z, st') := hm
      split at hm
      · rename_i hc
        cases hm
        simp only [Bool.and_eq_true, decide_eq_true_eq] at hc
        rw [line_eq] at hc
        refine mt_split pins s σ H x _ v us Q I rx rxs ⟨a, b, rd, by rw [show y = _ from re], beq_eq_false_iff_ne.mpr (by omega), hc.2, fun p hp => q F _ _ rfl (Ext.fresh F _ hp) (hs.fresh _ hp) (Rep.newL hs hp ?_)⟩
        have go : ∀ ys : List Str, Reps F H (ys.map D.str) (ys.map V.str) := fun ys => by
          induction ys with
          | nil => rfl
          | cons y ys ih => exact ⟨_, _, rfl, rfl, ih⟩
        exact go _
      · cases hm
    | _ => cases hm
  | _ => cases hm
theorem mt_joinF : MtR X "str.join" (rMt .join) := by
  intro pins s σ H x xs v us Q I rx rxs ⟨F, d, ds, z, st', hs, rd, rs, hm, q⟩
  rcases ds with _ | ⟨e, _ | ⟨_, _⟩⟩
  · cases hm
  rotate_left
  · cases hm
  obtain ⟨y, rfl, re⟩ := one_rep rs
  cases d with
  | str a =>
    have hm : (match (items F.st e).bind strsD with
      | some ys => if (ys.map (·.length)).sum + ys.length * a.length ≤ line then some (D.str (Txt.join a ys), F.st) else none
      | none => none) = some (z, st') := hm
    split at hm
    · rename_i ys hy
      split at hm
      · rename_i hc
        cases hm
        cases hi : items F.st e with
        | none => rw [hi] at hy; cases hy
        | some es =>
          rw [hi] at hy
          obtain ⟨p, vs, ep, ha, rv⟩ := items_rep hs re hi
          rw [strsD_map hy] at rv
          rw [rv.strs] at ha
          exact mt_join pins s σ H x _ v us Q I rx rxs ⟨a, p, ys, rd, by rw [ep], .inl (SqL.of ha), hc, q F H _ rfl (Ext.refl F H) hs rfl⟩
      · cases hm
    · cases hm
  | _ => cases hm
end
section
variable {T : Tab} {C : Nat → Addr} {W : WX} {c : Cxt} {n : Nat} {se : SE} {X : Cx}
/-- a method call's reading -/
theorem met_of {m : Mt} {a : Ex} {es : Exs} {K : PySem.W.Frag} {ty : String} (ht : ∀ F H d v, Sto F H → Rep F H d v → metTy F.st m d = true → tyV K ty v H) {σ : L2.St} {H : Hp} {Q : VK} (h : evT C W c (.met m a es) σ H Q) :
    evT C W c a σ H fun x H1 => tyV K ty x H1 ∧ evsT C W c es σ H1 fun xs H2 => rMt m x xs H2 Q := by
  obtain ⟨F, ρ, hs, hl, w⟩ := h
  rw [ev] at w
  refine ⟨F, ρ, hs, hl, (Aft.bind w).mono fun F1 H1 d v x1 s1 r1 q1 => ?_⟩
  split at q1
  · rename_i hm
    refine ⟨ht F1 H1 d v s1 r1 hm, F1, ρ, s1, hl.ext x1, (Aft.bind q1).mono fun F2 H2 ds vs x2 s2 r2 q2 => ?_⟩
    split at q2
    · rename_i z st' e
      exact ⟨F2, d, ds, z, st', s2, r1.ext x2, r2, e, fun F' H' v e xe sn r => q2 F' H' v e xe sn r⟩
    · exact q2.elim
  · exact q1.elim
theorem ty_list {K : PySem.W.Frag} {F : Fr} {H : Hp} {d : D} {v : V} (s : Sto F H) (r : Rep F H d v) (h : (items F.st d).isSome = true) : tyV K "list" v H := by
  obtain ⟨ds, e⟩ := Option.isSome_iff_exists.mp h
  obtain ⟨a, vs, ev, ha, _⟩ := items_rep s r e
  subst ev
  exact .inl ⟨rfl, vs, SqL.of ha⟩
theorem ty_str {K : PySem.W.Frag} {F : Fr} {H : Hp} {d : D} {v : V} (h : metTy F.st .join d = true) (r : Rep F H d v) : tyV K "str" v H := by
  cases d with
  | str z => rw [show v = _ from r]; rfl
  | _ => cases h
theorem few {env : Env} {pos : Pos} {xs : List Expr} (hs : noStars xs = true) (h9 : xs.length < 9) : ((backTo pos (starEach xs env)).all (fun x => !x.1) && (backToKw pos (keywordEach [] env)).all (fun x => x.1.isSome)
      && decide (xs.length + ([] : List Keyword).length + (if ([] : List Keyword).isEmpty then 0 else 1) < 30)) = true := by
  rw [stars_all hs]
  have : xs.length + ([] : List Keyword).length + (if ([] : List Keyword).isEmpty then 0 else 1) < 30 := by
    show xs.length + 0 + 0 < 30
    omega
  rw [decide_eq_true this]
  rfl
theorem meth1 {id ty : String} {nm : Str} {m : Mt} (pa : PlainAttrs ty) (slot : Slot ty nm id) (hty : typeOf (.builtin id) = pure (.type "method_descriptor")) (hm : MtR X id (rMt m)) (ht : ∀ F H d v, Sto F H → Rep F H d v → metTy F.st m d = true → tyV X.K ty v H) {a : Ex} {es : Exs} {o : Expr} {xs : List Expr} {ap cp : Pos}
    (ho : PE X o (evT C W c a)) (ha : PA X xs (evsT C W c es)) (hs : noStars xs = true) (hb : baseB o = true) (h9 : xs.length < 9) (hl : (ap.endLine == cp.line) = true) (hnil : xs = [] → es = .nil) : PE X (.Call (.Attribute o nm ap) xs [] cp) (evT C W c (.met m a es)) := by
  cases xs with
  | nil =>
    refine imp_e (pe_bm0 pa slot hty hm ho (baseB_ok hb) hl) fun σ H Q w => ?_
    obtain ⟨F, ρ, h1, h2, w'⟩ := met_of ht w
    refine ⟨F, ρ, h1, h2, w'.mono fun F1 H1 d v x1 s1 r1 ⟨q1, q2⟩ => ⟨q1, ?_⟩⟩
    rw [hnil rfl] at q2
    obtain ⟨F2, ρ2, k1, k2, k3⟩ := q2
    rw [evs] at k3
    exact k3.ok_now k1 rfl
  | cons e es' =>
    have h1 : isStar e = false ∧ noStars es' = true := by
      unfold noStars at hs ⊢
      rw [List.all_cons, Bool.and_eq_true, Bool.not_eq_true'] at hs
      exact hs
    exact imp_e (pe_bm pa slot hty hm ho ha (baseB_ok hb) (few hs h9) hl (star_cons h1.1) (stars_any h1.2)) fun σ H Q w => met_of ht w
end
end MP
end
section
set_option maxRecDepth 100000
set_option maxHeartbeats 4000000
/-! MPSnd18: new cells from displays, sums, list(..), comprehensions; frozen ones; list(range(..)). -/
namespace MP
open PySem L2
variable [Glo]
section
variable {T : Tab} {C : Nat → Addr} {W : WX} {c : Cxt} {n : Nat} {se : SE} {X : Cx}
theorem mk_bind {e : Ex} {ρ : Sl} {st : Store} : ev c (.mk e) ρ st = (ev c e ρ st).bind fun x st => match x with
    | .lst ds => .ok (.cel st.length) (st ++ [.lst ds])
    | .dic [] => .ok (.cel st.length) (st ++ [.dic []])
    | _ => .bad := by
  (rw [ev]) <;> rfl
/-- what is wanted of a new list that becomes a cell -/
theorem mk_fin {We : Value → Option Addr → Hp → Prop} {F : Fr} {H : Hp} {ds : List D} {vs : List V} {p : Addr} {Q : VK} (h : Aft Rep C We F H (R.ok (D.cel F.st.length) (F.st ++ [.lst ds])) fun _ H' _ v => Q v H') (s : Sto F H) (hp : H p = none) (r : Reps F H ds vs) : Q (.ref p) (upd H p (.lst vs)) := by
  obtain ⟨F', e, x, s', rp⟩ := cell_fresh s hp r
  exact h F' _ _ e x s' rp
theorem pe_mkDic {p : Pos} : PE X (.Dict [] [] p) (evT C W c (.mk .dic0)) := by
  refine imp_e pe_dnewK fun σ H Q ⟨F, ρ, hs, hl, w⟩ => ?_
  rw [mk_bind, ev] at w
  intro p hp
  obtain ⟨F', e, x, s', rp⟩ := cell_freshD (ds := []) (vs := []) hs hp rfl
  exact w F' _ _ e x s' rp
theorem pe_mkLst {es : Exs} {xs : List Expr} {p : Pos} (ha : PA X xs (evsT C W c es)) : PE X (.List xs p) (evT C W c (.mk (.lst es))) := by
  refine imp_e (pe_lst ha) fun σ H Q ⟨F, ρ, hs, hl, w⟩ => ?_
  rw [mk_bind, ev, bind_assoc] at w
  refine ⟨F, ρ, hs, hl, (Aft.bind w).mono fun F1 H1 ds vs x1 s1 r1 q1 => ?_⟩
  split at q1
  · rename_i hlen
    rw [line_eq, r1.length] at hlen
    exact ⟨hlen, fun p hp => mk_fin q1 s1 hp r1⟩
  · exact q1.elim
/-- a sum of lists -/
theorem op_mkadd : OpR X (binaryOp .Add) (fun x y H Q => ∃ F d e xs ys, Sto F H ∧ Rep F H d x ∧ Rep F H e y ∧ items F.st d = some xs ∧ items F.st e = some ys ∧ xs.length + ys.length ≤ line ∧ ∀ p vs, H p = none → Reps F H (xs ++ ys) vs → Q (.ref p) (upd H p (.lst vs))) := by
  intro pins s σ H x y v u Q I rx ry ⟨F, d, e, xs, ys, hs, rd, re, hi, hj, hl, q⟩
  obtain ⟨a, vs, ea, ha, ra⟩ := items_rep hs rd hi
  obtain ⟨b, us, eb, hb, rb⟩ := items_rep hs re hj
  rw [line_eq, ra.length, rb.length] at hl
  exact op_cat pins s σ H x y v u Q I rx ry ⟨a, b, vs, us, ea, eb, ha, hb, hl, fun p hp => q p _ hp (ra.append rb)⟩
theorem binD_lst {st : Store} {d e : D} {zs : List D} (h : binD st .add d e = some (.lst zs)) : ∃ xs ys, items st d = some xs ∧ items st e = some ys ∧ xs.length + ys.length ≤ line ∧ zs = xs ++ ys := by
  unfold binD at h
  split at h
  · cases h
  · simp only at h
    split at h <;> cases h
  · cases h
  · simp only at h
    split at h <;> cases h
  · cases h
  · split at h
    · rename_i xs ys _ h1 h2
      split at h
      · rename_i hl
        cases h
        exact ⟨xs, ys, h1, h2, hl, rfl⟩
      · cases h
    · cases h
theorem binD_dic {st : Store} {d e : D} {kvs : List (Key × D)} (h : binD st .add d e = some (.dic kvs)) : False := by
  unfold binD at h
  split at h
  · cases h
  · simp only at h
    split at h <;> cases h
  · cases h
  · simp only at h
    split at h <;> cases h
  · cases h
  · split at h
    · split at h <;> cases h
    · cases h
theorem pe_mkAdd {a b : Ex} {x y : Expr} {p : Pos} (ha : PE X x (evT C W c a)) (hb : PE X y (evT C W c b)) : PE X (.BinOp x .Add y p) (evT C W c (.mk (.bin .add a b))) := by
  refine imp_e (pe_op op_mkadd ha hb) fun σ H Q ⟨F, ρ, hs, hl, w⟩ => ?_
  rw [mk_bind, ev, bind_assoc] at w
  refine ⟨F, ρ, hs, hl, (Aft.bind w).mono fun F1 H1 d v x1 s1 r1 q1 => ?_⟩
  rw [bind_assoc] at q1
  refine ⟨F1, ρ, s1, hl.ext x1, (Aft.bind q1).mono fun F2 H2 e u x2 s2 r2 q2 => ?_⟩
  cases hz : binD F2.st .add d e with
  | none => rw [hz] at q2; exact q2.elim
  | some z =>
    rw [hz] at q2
    cases z with
    | lst zs =>
      obtain ⟨xs, ys, h1, h2, h3, h4⟩ := binD_lst hz
      subst h4
      exact ⟨F2, d, e, xs, ys, s2, r1.ext x2, r2, h1, h2, h3, fun p vs hp rr => mk_fin q2 s2 hp rr⟩
    | dic kvs => exact (binD_dic hz).elim
    | _ => exact q2.elim
theorem cr_mkList : CallR X (.type "list") (fun vs H Q => ∃ F d ds v, vs = [v] ∧ Sto F H ∧ Rep F H d v ∧ (items F.st d = some ds ∨ d = .tup ds) ∧ ∀ p us, H p = none → Reps F H ds us → Q (.ref p) (upd H p (.lst us))) := by
  intro pins s σ H xs us Q I r ⟨F, d, ds, v, e, hs, rd, hd, q⟩
  subst e
  rcases hd with hi | hd
  · obtain ⟨a, vs, ea, ha, rs⟩ := items_rep hs rd hi
    subst ea
    exact call_list_of pins s σ H _ us Q I r ⟨a, vs, rfl, .inl (SqL.of ha), fun l hl => q _ _ hl rs⟩
  · subst hd
    obtain ⟨a, vs, ea, _, ha, rs⟩ := rd
    subst ea
    exact call_list_of pins s σ H _ us Q I r ⟨a, vs, rfl, .inr (SqT.of ha), fun l hl => q _ _ hl rs⟩
theorem pe_mkList (G : GX T C W c n se X) {e : Ex} {y : Expr} {p pos : Pos} (g1 : gloB se.sc "list" = true) (hy : PE X y (evT C W c e)) (hsy : isStar y = false) : PE X (.Call (.Name "list" p) [y] [] pos) (evT C W c (.mk (.blt .list (.cons e .nil)))) := by
  refine imp_e (pe_callTy cr_mkList (gloB_ok (by rw [G.sc]; exact g1)) (G.bl _ (by decide)) PyProof.Rows.boot_list (pa_cons hy pa_nil (star_cons hsy)) (by decide) (by decide) (star_cons hsy) (by rfl)) fun σ H Q ⟨F, ρ, hs, hl, w⟩ => ?_
  rw [mk_bind, ev, evs1, bind_assoc, bind_assoc] at w
  refine ⟨F, ρ, hs, hl, (Aft.bind w).mono fun F1 H1 d v x1 s1 r1 q1 => ?_⟩
  have q1 : Aft Rep C _ F1 H1 ((ofO (match d with
    | .tup xs => some (D.lst xs)
    | _ => (items F1.st d).map .lst) F1.st).bind fun x st => match x with
    | .lst ds => .ok (.cel st.length) (st ++ [.lst ds])
    | .dic [] => .ok (.cel st.length) (st ++ [.dic []])
    | _ => .bad) _ := q1
  have go : ∀ ds, (items F1.st d = some ds ∨ d = .tup ds) → Aft Rep C (fun cl d H' => W cl d σ H') F1 H1 (R.ok (D.cel F1.st.length) (F1.st ++ [.lst ds])) (fun _ H' _ v => Q v H') → ∃ F d ds v', [v] = [v'] ∧ Sto F H1 ∧ Rep F H1 d v' ∧ (items F.st d = some ds ∨ d = .tup ds) ∧ ∀ p us, H1 p = none → Reps F H1 ds us → Q (.ref p) (upd H1 p (.lst us)) :=
    fun ds hd q => ⟨F1, d, ds, v, rfl, s1, r1, hd, fun p us hp rr => mk_fin q s1 hp rr⟩
  cases d with
  | tup ds => exact go ds (.inr rfl) q1
  | lst ds => exact go ds (.inl rfl) q1
  | cel k =>
    cases hi : items F1.st (.cel k) with
    | none =>
      have q1 : Aft Rep C _ F1 H1 ((ofO ((items F1.st (.cel k)).map D.lst) F1.st).bind _) _ := q1
      rw [hi] at q1
      exact q1.elim
    | some ds =>
      have q1 : Aft Rep C _ F1 H1 ((ofO ((items F1.st (.cel k)).map D.lst) F1.st).bind _) _ := q1
      rw [hi] at q1
      exact go ds (.inl hi) q1
  | _ => exact q1.elim
theorem mkLc_of {x : Ex} {tg : List Nat} {tp : Bool} {s : Sr} {i : Ox} {own : List Nat} {σ : L2.St} {H : Hp} {Q : VK} (htg : ∀ j ∈ tg, j ∈ own) (h : evT C W c (.mk (.lc x tg tp s i own)) σ H Q) :
    tLc (evwT C W c s) (gF tg tp) (evtT C WF c i) (evT C WF c x) own σ H Q := by
  obtain ⟨F, ρ, hs, hl, w⟩ := h
  rw [mk_bind, ev, bind_assoc] at w
  refine tLc_by htg hs hl ((Aft.bind w).mono fun F1 H1 wk J x1 s1 r1 q1 => ?_)
  have q1 : Aft Rep C _ F1 H1 (((noExc (lcGo wk (turnF c x tg tp i own ρ) wk.its [] F1.st)).bind fun ys st => R.ok (D.lst ys) st).bind fun x st => match x with
    | .lst ds => .ok (.cel st.length) (st ++ [.lst ds])
    | .dic [] => .ok (.cel st.length) (st ++ [.dic []])
    | _ => .bad) (fun _ H' _ v => Q v H') := q1
  cases hr : lcGo wk (turnF c x tg tp i own ρ) wk.its [] F1.st with
  | exc k d st => rw [hr] at q1; exact q1.elim
  | bad => rw [hr] at q1; exact q1.elim
  | ok ys st' =>
    rw [hr] at q1
    have q1 : ∀ F' H' b, F'.st = st' ++ [.lst ys] → Ext F1 H1 F' H' → Sto F' H' → Rep F' H' (.cel st'.length) b → Q b H' := q1
    refine ⟨ys, st', rfl, fun F2 H2 D' vs xe sF xD hD hDv rs est => ?_⟩
    obtain ⟨k1, k2, k3⟩ := cell_new xe sF hD xD hDv rs
    exact q1 _ H2 _ (by rw [← est]; rfl) k1 k2 (by rw [← est]; exact k3)
/-- a cell is frozen -/
theorem pe_frzF {e : Ex} {x : Expr} (h : PE X x (evT C W c e)) : PE X x (evT C W c (.frz e)) := by
  refine imp_e h fun σ H Q ⟨F, ρ, hs, hl, w⟩ => ?_
  rw [ev] at w
  refine ⟨F, ρ, hs, hl, (Aft.bind w).mono fun F1 H1 d v x1 s1 r1 q1 => ?_⟩
  cases d with
  | cel k =>
    have q1 : Aft Rep C _ F1 H1 (match F1.st[k]? with
      | some (.lst ds) => R.ok (.lst ds) (F1.st.set k .gone)
      | _ => .bad) _ := q1
    split at q1
    · rename_i ds e
      obtain ⟨x2, s2, r2⟩ := cell_frz s1 e r1
      exact q1 _ _ _ rfl x2 s2 r2
    · exact q1.elim
  | _ => exact q1.elim
/-- list(range(e)) -/
theorem pe_lrngF (G : GX T C W c n se X) {e : Ex} {y : Expr} {p q pos pos' : Pos} (g1 : gloB se.sc "list" = true) (g2 : gloB se.sc "range" = true) (hy : PE X y (evT C W c e)) (hsy : isStar y = false) :
    PE X (.Call (.Name "list" p) [.Call (.Name "range" q) [y] [] pos'] [] pos) (evT C W c (.blt .lrng (.cons e .nil))) := by
  refine imp_e (pe_listRg G.calm (gloB_ok (by rw [G.sc]; exact g1)) (G.bl _ (by decide)) (prg_1 (gloB_ok (by rw [G.sc]; exact g2)) (G.bl _ (by decide)) hy (star_cons hsy)) (by rfl)) fun σ H Q ⟨F, ρ, hs, hl, w⟩ => ?_
  rw [ev, evs1, bind_assoc] at w
  refine ⟨F, ρ, hs, hl, (Aft.bind w).mono fun F1 H1 d v x1 s1 r1 q1 => ?_⟩
  cases d with
  | int i =>
    have q1 : Aft Rep C _ F1 H1 (ofO (if decide (-(2 ^ 62) ≤ i) && decide (i ≤ line) then some (D.lst ((List.range i.toNat).map fun (k : Nat) => .int (k : Int))) else none) F1.st) _ := q1
    split at q1
    · rename_i hc
      simp only [Bool.and_eq_true, decide_eq_true_eq] at hc
      obtain ⟨c1, c2⟩ := hc
      have c2 : i ≤ 16777216 := c2
      refine ⟨i, r1, ⟨by omega, by omega, c1, by omega, by omega⟩, fun q hq => q1 F1 _ _ rfl (Ext.fresh F1 _ hq) (s1.fresh _ hq) (Rep.newL s1 hq ?_)⟩
      unfold rgV
      have go : ∀ ns : List Nat, Reps F1 H1 (ns.map fun (k : Nat) => D.int (k : Int)) (ns.map fun (k : Nat) => V.int (0 + (k : Int))) := fun ns => by
        induction ns with
        | nil => rfl
        | cons a ns ih => exact ⟨_, _, rfl, by show V.int (0 + (a : Int)) = V.int (a : Int); rw [Int.zero_add], ih⟩
      rw [Int.sub_zero]
      exact go _
    · exact q1.elim
  | _ => exact q1.elim
end
end MP
end
section
set_option maxRecDepth 100000
set_option maxHeartbeats 4000000
/-! MPLam: lambdas: made, handed on, called. -/
namespace MP
open PySem L2 PyProof.Rows
/-! ### a lambda made -/
section
variable {X : Cx} {pins : List (Addr × Obj)} {σ : L2.St} {H : Hp} {s : Shared}
/-- its object is new; its code object is new, too, or that of the table -/
theorem lam_new {T : List (Addr × Str)} {c0 P0 : Addr} {ps : Arguments} {b : Expr} {sc : Scope} {pos : Pos} {E Q : Value → Shared → Prop} (I : L2.Inv X pins σ H s) (TB : LamX.TabB X.base X.mg c0 P0) (hcode : X.env.code = .ref c0)
    (hm : (P0, X.env.qual ++ "<lambda>") ∈ T) (hu : ∀ p ∈ T, p.1 = P0 → p.2 = X.env.qual ++ "<lambda>") (hT : LamX.Tabs T H) (hd : defaultsOf ps X.env = ([], [])) (hf : ∀ y ∈ sc.names, y.2 = .free → ∃ c, X.env.cells.lookup y.1 = some c)
    (go : ∀ (f c' : Addr) (pm ctv : Value) (H1 : Hp) (s' : Shared), L2.Inv X pins σ H1 s' → LamX.ExtN H H1 → (∀ a, H1 a = none → H a = none) → LamX.Tabs T H1 → s'.heap.get? f = some (PySem.W.kla_obj "<lambda>" (X.env.qual ++ "<lambda>") ps b sc (cloFrom X.env.cells sc.names []) pm c' ctv) →
      H1 f = none → s.heap.objs.size ≤ f → H1 c' = some (LamX.CodeO c' (X.env.qual ++ "<lambda>")) → Q (.ref f) s') : wpAny (model X.prog X.w) X.A (eval (.Lambda ps b sc pos) X.env) Q E s := by
  obtain ⟨rows, tP, tOk, tAll⟩ := hT _ hm
  have bmP : s.heap.BuiltinsAt X.mg P0 := TB.bm.keeps I.bk
  have gP : s.heap.get? P0 = some { cls := .none, data := .fields rows } := I.hok P0 _ tP
  refine PySem.W.kla_eval hd ?_
  cases look : codeAmong pos rows.toList with
  | some cv =>
    obtain ⟨c', ec, hco⟩ := tAll pos cv look
    rw [ec] at look
    refine PySem.W.kla_makeFunctionHit (mg := X.mg) (c := c0) (P := P0) (ps := rows) (closure_ok hf) I.ok.glob (I.mod.glob.keeps I.bk) hcode (TB.code.keeps I.bk) gP tOk look bmP fun ctv h1 tk hx hsz => ?_
    have I1 : L2.Inv X pins σ H { s with heap := h1.push (PySem.W.kla_obj "<lambda>" (X.env.qual ++ "<lambda>") ps b sc (cloFrom X.env.cells sc.names []) ((X.mg "__name__").getD .none) c' ctv), toks := tk } :=
      I.kept fun a o e => Heap.get?_push_of_some _ (hx a o e)
    exact go h1.objs.size c' _ ctv H _ I1 (LamX.ExtN.refl H) (fun _ e => e) hT (Heap.get?_push_size _ rfl) (I.hok.fresh hsz) hsz hco
  | none =>
    refine PySem.W.kla_makeFunction (mg := X.mg) (c := c0) (P := P0) (ps := rows) (closure_ok hf) I.ok.glob (I.mod.glob.keeps I.bk) hcode (TB.code.keeps I.bk) gP tOk look TB.gP bmP fun c' ctv h1 tk hx hge hlt hrec htb => ?_
    obtain ⟨_, oc, vs, t, e2, hoc, hdt, hv⟩ := hrec
    cases e2
    have big : s.heap.objs.size ≤ h1.objs.size := Nat.le_of_lt (Nat.lt_of_le_of_lt hge hlt)
    have cN : H c' = none := I.hok.fresh hge
    have old : ∀ {a : Addr} {o : HO}, H a = some o → a ≠ c' := fun {a o} e => ne_of_none e cN
    have I1 := LamX.inv_table (t' := tk) (q := X.env.qual ++ "<lambda>") (more := #[rawInt pos.line, rawInt pos.col, .ref c']) (h' := h1.push (PySem.W.kla_obj "<lambda>" (X.env.qual ++ "<lambda>") ps b sc (cloFrom X.env.cells sc.names []) ((X.mg "__name__").getD .none) c' ctv)) I tP
      (fun a o ha e => Heap.get?_push_of_some _ (hx a o ha e)) (Heap.get?_push_of_some _ htb) hge ⟨oc, vs, t, Heap.get?_push_of_some _ hoc, hdt, hv⟩
    obtain ⟨H1, eH⟩ : ∃ H1 : Hp, H1 = upd (upd H P0 (.tbl (rows ++ #[rawInt pos.line, rawInt pos.col, .ref c']))) c' (LamX.CodeO c' (X.env.qual ++ "<lambda>")) := ⟨_, rfl⟩
    rw [← eH] at I1
    have atc : H1 c' = some (LamX.CodeO c' (X.env.qual ++ "<lambda>")) := by rw [eH, upd_same]
    have atP : H1 P0 = some (.tbl (rows ++ #[rawInt pos.line, rawInt pos.col, .ref c'])) := by rw [eH, upd_ne (old tP), upd_same]
    have oth : ∀ {a : Addr}, a ≠ P0 → a ≠ c' → H1 a = H a := fun {a} h1 h2 => by rw [eH, upd_ne h2, upd_ne h1]
    have ex : LamX.ExtN H H1 := fun a o e nt => by
      rw [oth (fun z => nt rows (by rw [z, tP] at e; exact (Option.some.inj e).symm)) (old e)]
      exact e
    refine go h1.objs.size c' _ ctv H1 _ I1 ex (fun a e => ?_) (fun p hp => ?_) (Heap.get?_push_size _ rfl) ?_ big atc
    · by_cases ha : a = c'
      · rw [ha]; exact cN
      · by_cases hp : a = P0
        · rw [hp, atP] at e; cases e
        · rw [← oth hp ha]; exact e
    · obtain ⟨rows', a1, a2, a3⟩ := hT p hp
      by_cases hb : p.1 = P0
      · have eq : (rows ++ #[rawInt pos.line, rawInt pos.col, .ref c']).toList = rows.toList ++ [rawInt pos.line, rawInt pos.col, .ref c'] := by simp
        rw [hu p hp hb, hb]
        refine ⟨_, atP, ?_, fun p' cv hc => ?_⟩
        · rw [eq]
          exact PySem.TriplesOk_snoc _ _ _ _ tOk
        · rw [eq] at hc
          rcases LamX.among_app _ tOk hc with z | z
          · obtain ⟨d, e1, e2⟩ := tAll p' cv z
            exact ⟨d, e1, ex _ _ e2 LamX.codeO_ne⟩
          · exact ⟨c', z, atc⟩
      · refine ⟨rows', by rw [oth hb (old a1)]; exact a1, a2, fun p' cv hc => ?_⟩
        obtain ⟨d, e1, e2⟩ := a3 p' cv hc
        exact ⟨d, e1, ex _ _ e2 LamX.codeO_ne⟩
    · have nP : h1.objs.size ≠ P0 := fun z => by
        have q : P0 < s.heap.objs.size := Heap.lt_size gP
        rw [← z] at q
        exact absurd q (Nat.not_lt.mpr big)
      rw [oth nP (Nat.ne_of_gt hlt)]
      exact I.hok.fresh big
end
/-! ### objects as they stand -/
def obK (h : Heap) (as : List Addr) : List (Addr × Obj) := as.filterMap fun a => (h.get? a).map fun o => (a, o)
theorem obK_in {h : Heap} {a : Addr} {o : Obj} : ∀ {as : List Addr}, (obK h as).lookup a = some o → a ∈ as ∧ h.get? a = some o
  | [], e => by cases e
  | b :: r, e => by
    unfold obK at e
    rw [List.filterMap_cons] at e
    cases hb : h.get? b with
    | none =>
      rw [hb] at e
      obtain ⟨h1, h2⟩ := obK_in (as := r) e
      exact ⟨List.mem_cons_of_mem _ h1, h2⟩
    | some u =>
      rw [hb] at e
      have e : ((b, u) :: obK h r).lookup a = some o := e
      rw [List.lookup_cons] at e
      split at e
      · rename_i q
        cases e
        rw [beq_iff_eq.mp q]
        exact ⟨List.mem_cons_self, hb⟩
      · obtain ⟨h1, h2⟩ := obK_in (as := r) e
        exact ⟨List.mem_cons_of_mem _ h1, h2⟩
theorem obK_of {h : Heap} {a : Addr} {o : Obj} (e : h.get? a = some o) : ∀ {as : List Addr}, a ∈ as → (obK h as).lookup a = some o
  | [], m => by cases m
  | b :: r, m => by
    unfold obK
    rw [List.filterMap_cons]
    by_cases q : a = b
    · subst q
      rw [e]
      show ((a, o) :: obK h r).lookup a = some o
      rw [List.lookup_cons, beq_self_eq_true]
    · have ih := obK_of e ((List.mem_cons.mp m).resolve_left q)
      cases hb : h.get? b with
      | none => exact ih
      | some u =>
        show ((b, u) :: obK h r).lookup a = some o
        rw [List.lookup_cons, beq_eq_false_iff_ne.mpr q]
        exact ih
theorem bare_free : ∀ {d : D}, bareD d = true → freeD d = true := by
  have key : ∀ n : Nat, ∀ d : D, sizeOf d < n → bareD d = true → freeD d = true := by
    intro n
    induction n with
    | zero => intro d h; omega
    | succ n ih =>
      intro d hs h
      have all : ∀ ds : List D, sizeOf ds < n + 1 → bareDs ds = true → freeDs ds = true := by
        intro ds
        induction ds with
        | nil => intro _ _; rfl
        | cons x r ihr =>
          intro hs h
          rw [bareDs, Bool.and_eq_true] at h
          rw [freeDs, Bool.and_eq_true]
          simp only [List.cons.sizeOf_spec] at hs
          refine ⟨?_, ihr (by omega) h.2⟩
          exact ih x (by omega) h.1
      have alk : ∀ ds : List (Key × D), sizeOf ds < n + 1 → bareDk ds = true → freeDk ds = true := by
        intro ds
        induction ds with
        | nil => intro _ _; rfl
        | cons x r ihr =>
          intro hs h
          obtain ⟨k, x⟩ := x
          rw [bareDk, Bool.and_eq_true] at h
          rw [freeDk, Bool.and_eq_true]
          simp only [List.cons.sizeOf_spec, Prod.mk.sizeOf_spec] at hs
          refine ⟨?_, ihr (by omega) h.2⟩
          exact ih x (by omega) h.1
      cases d with
      | lst ds =>
        simp only [D.lst.sizeOf_spec] at hs
        rw [freeD]
        rw [bareD] at h
        exact all ds (by omega) h
      | tup ds =>
        simp only [D.tup.sizeOf_spec] at hs
        rw [freeD]
        rw [bareD] at h
        exact all ds (by omega) h
      | dic ds =>
        simp only [D.dic.sizeOf_spec] at hs
        rw [freeD]
        rw [bareD] at h
        exact alk ds (by omega) h
      | cel _ => simp [bareD] at h
      | exv _ _ => simp [bareD] at h
      | clo _ _ => simp [bareD] at h
      | _ => simp [freeD]
  exact fun {d} h => key _ d (Nat.lt_succ_self _) h
variable [Glo]
/-! ### what changes when things are learnt or forgotten -/
theorem sto_extN {F : Fr} {H H1 : Hp} (s : Sto F H) (ex : LamX.ExtN H H1) (bk : ∀ a, H1 a = none → H a = none) (t : LamX.Tabs Glo.tabs H1) : Ext F H F H1 ∧ Sto F H1 := by
  have x : Ext F H F H1 := ⟨fun _ _ => rfl, fun _ _ => Iff.rfl, Nat.le_refl _, fun _ _ h => h, fun k hk h => absurd h.lt (Nat.not_lt.mpr hk), bk, fun a o e nt _ => ex a o e nt⟩
  refine ⟨x, fun k o e => ?_, s.inj, s.nex, fun a h z => s.ext a h (bk a z), t, fun a h => ?_⟩
  · have q := s.ce k o e
    cases o with
    | lst ds =>
      obtain ⟨vs, q1, r⟩ := q
      exact ⟨vs, ex _ _ q1 (fun _ z => nomatch z), r.ext x⟩
    | dic ds =>
      obtain ⟨vs, q1, r⟩ := q
      exact ⟨vs, ex _ _ q1 (fun _ z => nomatch z), r.ext x⟩
    | gone => trivial
  · obtain ⟨q1, q2⟩ := s.exl a h
    cases e : H a with
    | none => exact absurd e (s.ext a h)
    | some o =>
      have e1 := ex a o e fun ps z => q2 ps (by rw [e, z])
      rw [e1, ← e]
      exact ⟨q1, q2⟩
section
variable {K : List (Addr × Obj)} {fs : List Addr} {h : Heap} {F : Fr} {H : Hp}
theorem Fre.xt (f : Fre K fs H h) : Ext F H F (lrn K H) :=
  ⟨fun _ _ => rfl, fun _ _ => Iff.rfl, Nat.le_refl _, fun _ _ h => h, fun k hk h => absurd h.lt (Nat.not_lt.mpr hk), fun a e => by
    cases q : K.lookup a with
    | none => rw [lrn_out q] at e; exact e
    | some o => exact f.non a o q, fun a o e _ _ => f.ext e⟩
theorem Fre.un (f : Fre K fs H h) (s : Sto F H) {a : Addr} {o : Obj} (q : K.lookup a = some o) : ¬ F.un a := s.nun (f.non a o q)
theorem Fre.sto (f : Fre K fs H h) (s : Sto F H) : Sto F (lrn K H) := by
  have x : Ext F H F (lrn K H) := f.xt
  refine ⟨fun k o e => ?_, s.inj, s.nex, fun a h z => s.ext a h (x.there a z), s.tab.ext fun b u e => f.ext e, fun a h => ?_⟩
  · have q := s.ce k o e
    cases o with
    | lst ds =>
      obtain ⟨vs, q1, r⟩ := q
      exact ⟨vs, f.ext q1, r.ext x⟩
    | dic ds =>
      obtain ⟨vs, q1, r⟩ := q
      exact ⟨vs, f.ext q1, r.ext x⟩
    | gone => trivial
  · cases e : H a with
    | none => exact absurd e (s.ext a h)
    | some o =>
      rw [f.ext e, ← e]
      exact s.exl a h
theorem Got.sto (g : Got K fs H) (e0 : F.st = []) (hu : ∀ a o, K.lookup a = some o → ¬ F.un a) (s : Sto F H) : Sto F (fgt K H) := by
  have nt : ∀ {a : Addr} {u : HO}, H a = some u → (∀ x y, u ≠ .frz x (.own y)) → fgt K H a = some u := fun e hx => fgt_keep g e hx
  refine ⟨fun k o e => by rw [e0] at e; simp at e, s.inj, s.nex, fun a h z => ?_, fun p hp => ?_, fun a h => ?_⟩
  · cases q : K.lookup a with
    | none => rw [fgt_out q] at z; exact s.ext a h z
    | some o => exact hu a o q (.inl h)
  · obtain ⟨ps, t1, t2, t3⟩ := s.tab p hp
    refine ⟨ps, nt t1 (fun _ _ z => nomatch z), t2, fun pos cv hc => ?_⟩
    obtain ⟨c, e1, e2⟩ := t3 pos cv hc
    exact ⟨c, e1, nt e2 (fun _ _ z => by unfold LamX.CodeO at z; cases z)⟩
  · cases q : K.lookup a with
    | none => rw [fgt_out q]; exact s.exl a h
    | some o => exact absurd (.inl h) (hu a o q)
end
section
variable {C : Nat → Addr} {K : List (Addr × Obj)} {fs : List Addr} {h : Heap} {F : Fr} {H : Hp} {We : Value → Option Addr → Hp → Prop} {Q : VK} {r : R D}
/-- a call while they are known, seen from where they are not -/
theorem aft_fgt (e0 : F.st = []) (f : Fre K fs H h) (s0 : Sto F H) (q : Aft Rep C We F H (bareR r []) fun _ H' _ v => Q v H') : Aft Rep C (fun cl d H' => We cl d (fgt K H')) F (lrn K H) r fun _ H' _ v => Q v (fgt K H') := by
  have key : ∀ {F' : Fr} {H' : Hp}, Ext F (lrn K H) F' H' → Sto F' H' → Got K fs H' ∧ Ext F H F (fgt K H') ∧ Sto F (fgt K H') ∧ ∀ a, F.un a → F'.un a := by
    intro F' H' x s'
    have nl : ∀ k, ¬ Live F.st k := fun k ⟨o, e, _⟩ => by rw [e0] at e; simp at e
    have g : Got K fs H' := ⟨fun a o e => x.keep a _ (lrn_in e) (fun _ z => nomatch z) fun k hk => absurd hk (nl k), f.nfs⟩
    have un : ∀ a, F.un a → F'.un a := fun a z => z.elim (fun z => .inl ((x.ex a (fun e => s0.ext a z (by
      cases q : K.lookup a with
      | none => rw [lrn_out q] at e; exact e
      | some o => exact f.non a o q))).mpr z)) fun ⟨k, hk, _⟩ => absurd hk (nl k)
    have xe : Ext F H F (fgt K H') := ⟨fun _ _ => rfl, fun _ _ => Iff.rfl, Nat.le_refl _, fun _ _ h => h, fun k hk h => absurd h.lt (Nat.not_lt.mpr hk), fun a e => by
      cases q : K.lookup a with
      | none =>
        rw [fgt_out q] at e
        have := x.there a e
        rw [lrn_out q] at this
        exact this
      | some o => exact f.non a o q, fun a o e nt _ => by
      have q : K.lookup a = none := by
        cases q : K.lookup a with
        | none => rfl
        | some o' => rw [f.non a o' q] at e; cases e
      rw [fgt_out q]
      exact x.keep a o (f.ext e) nt fun k hk => absurd hk (nl k)⟩
    have sF : Sto F H' := ⟨fun k o e => by rw [e0] at e; simp at e, fun j k hj => absurd hj (nl j), fun k hk => absurd hk (nl k), fun a z e => s0.ext a z (by
      have e := x.there a e
      cases q : K.lookup a with
      | none => rw [lrn_out q] at e; exact e
      | some o => exact f.non a o q), s'.tab, fun a z => s'.nuA (un a (.inl z))⟩
    exact ⟨g, xe, g.sto e0 (fun a o e => f.un s0 e) sF, un⟩
  have rep : ∀ {F' : Fr} {H' : Hp} {d : D} {b : V}, Got K fs H' → (∀ a, F.un a → F'.un a) → bareD d = true → Rep F' H' d b → Rep F (fgt K H') d b := fun g un hd rb =>
    repB (fun a o ha hu _ hz => ⟨fun z => hu (un a z), fgt_keep g ha hz⟩) _ _ hd rb
  cases r with
  | bad => exact q
  | ok d st =>
    intro F' H' b est x s' rb
    by_cases hd : bareD d = true
    · have q : Aft Rep C We F H (if bareD d then .ok d [] else .bad) fun _ H' _ v => Q v H' := q
      rw [if_pos hd] at q
      obtain ⟨g, xe, sf, un⟩ := key x s'
      exact q F _ b e0 xe sf (rep g un hd rb)
    · have q : Aft Rep C We F H (if bareD d then .ok d [] else .bad) fun _ H' _ v => Q v H' := q
      rw [if_neg hd] at q
      exact q.elim
  | exc k d st =>
    intro F' H' dx v est x s' hx hux hnx rb
    by_cases hd : bareD d = true
    · have q : Aft Rep C We F H (if bareD d then .exc k d [] else .bad) fun _ H' _ v => Q v H' := q
      rw [if_pos hd] at q
      obtain ⟨g, xe, sf, un⟩ := key x s'
      exact q F _ dx v e0 xe sf (fgt_keep g hx fun _ _ z => nomatch z) (fun z => hux (un dx z)) (by
        cases q : K.lookup dx with
        | none => rw [lrn_out q] at hnx; exact hnx
        | some o => exact f.non dx o q) (rep g un hd rb)
    · have q : Aft Rep C We F H (if bareD d then .exc k d [] else .bad) fun _ H' _ v => Q v H' := q
      rw [if_neg hd] at q
      exact q.elim
/-- a call while they are not known, seen from where they are -/
theorem aft_lrn (e0 : F.st = []) (g : Got K fs H) (hu : ∀ a o, K.lookup a = some o → ¬ F.un a) (s0 : Sto F H) (q : Aft Rep C We F H (bareR r []) fun _ H' _ v => Q v H') :
    Aft Rep C (fun cl d H' => (∀ a o, K.lookup a = some o → H' a = none) → We cl d (lrn K H')) F (fgt K H) r fun _ H' _ v => (∀ a o, K.lookup a = some o → H' a = none) → Q v (lrn K H') := by
  have nl : ∀ k, ¬ Live F.st k := fun k ⟨o, e, _⟩ => by rw [e0] at e; simp at e
  have key : ∀ {F' : Fr} {H' : Hp}, Ext F (fgt K H) F' H' → Sto F' H' → (∀ a o, K.lookup a = some o → H' a = none) → (∀ a u, H' a = some u → lrn K H' a = some u) ∧ Ext F H F (lrn K H') ∧ Sto F (lrn K H') ∧ ∀ a, F.un a → F'.un a := by
    intro F' H' x s' hn
    have up : ∀ a u, H' a = some u → lrn K H' a = some u := fun a u e => by
      cases q : K.lookup a with
      | none => rw [lrn_out q]; exact e
      | some o => rw [hn a o q] at e; cases e
    have f0 : ∀ a, F.ex a → fgt K H a ≠ none := fun a z e => by
      cases q : K.lookup a with
      | none => rw [fgt_out q] at e; exact s0.ext a z e
      | some o => exact hu a o q (.inl z)
    have un : ∀ a, F.un a → F'.un a := fun a z => z.elim (fun z => .inl ((x.ex a (f0 a z)).mpr z)) fun ⟨k, hk, _⟩ => absurd hk (nl k)
    have xe : Ext F H F (lrn K H') := ⟨fun _ _ => rfl, fun _ _ => Iff.rfl, Nat.le_refl _, fun _ _ h => h, fun k hk h => absurd h.lt (Nat.not_lt.mpr hk), fun a e => by
      cases q : K.lookup a with
      | none =>
        rw [lrn_out q] at e
        have := x.there a e
        rwa [fgt_out q] at this
      | some o => exact absurd ((lrn_in q).symm.trans e) (fun z => nomatch z), fun a o e nt _ => by
      cases q : K.lookup a with
      | none => exact up a o (x.keep a o (by rw [fgt_out q]; exact e) nt fun k hk => absurd hk (nl k))
      | some o' =>
        rw [g.at_ a o' q] at e
        rw [lrn_in q]
        exact e⟩
    refine ⟨up, xe, ⟨fun k o e => by rw [e0] at e; simp at e, fun j k hj => absurd hj (nl j), fun k hk => absurd hk (nl k), fun a z e => s0.ext a z (xe.there a e), s'.tab.ext up, fun a z => ?_⟩, un⟩
    cases q : K.lookup a with
    | none => rw [lrn_out q]; exact s'.nuA (un a (.inl z))
    | some o => exact absurd (.inl z) (hu a o q)
  cases r with
  | bad => exact q
  | ok d st =>
    intro F' H' b est x s' rb hn
    by_cases hd : bareD d = true
    · have q : Aft Rep C We F H (if bareD d then .ok d [] else .bad) fun _ H' _ v => Q v H' := q
      rw [if_pos hd] at q
      obtain ⟨up, xe, sf, un⟩ := key x s' hn
      exact q F _ b e0 xe sf (repB (fun a o ha hv _ _ => ⟨fun z => hv (un a z), up a o ha⟩) _ _ hd rb)
    · have q : Aft Rep C We F H (if bareD d then .ok d [] else .bad) fun _ H' _ v => Q v H' := q
      rw [if_neg hd] at q
      exact q.elim
  | exc k d st =>
    intro F' H' dx v est x s' hx hux hnx rb hn
    by_cases hd : bareD d = true
    · have q : Aft Rep C We F H (if bareD d then .exc k d [] else .bad) fun _ H' _ v => Q v H' := q
      rw [if_pos hd] at q
      obtain ⟨up, xe, sf, un⟩ := key x s' hn
      refine q F _ dx v e0 xe sf (up dx _ hx) (fun z => hux (un dx z)) ?_ (repB (fun a o ha hv _ _ => ⟨fun z => hv (un a z), up a o ha⟩) _ _ hd rb)
      cases q : K.lookup dx with
      | none => rw [fgt_out q] at hnx; exact hnx
      | some o => rw [hn dx o q] at hx; cases hx
    · have q : Aft Rep C We F H (if bareD d then .exc k d [] else .bad) fun _ H' _ v => Q v H' := q
      rw [if_neg hd] at q
      exact q.elim
end
section
variable {T : Tab} {C : Nat → Addr} {W : WX} {c : Cxt} {n : Nat} {se : SE} {X : Cx}
theorem bareR_eq {r : R D} {st : Store} : bareR r st = (match (bareR r []) with
    | .ok d _ => if freeD d then .ok d st else .bad
    | .exc k d _ => if freeD d then .exc k d st else .bad
    | .bad => .bad) := by
  cases r with
  | ok d st' =>
    simp only [bareR]
    by_cases hb : bareD d = true
    · simp [hb, bare_free hb]
    · simp [hb]
  | exc k d st' =>
    simp only [bareR]
    by_cases hb : bareD d = true
    · simp [hb, bare_free hb]
    · simp [hb]
  | bad => rfl
/-- a lambda called -/
theorem pe_cacF (G : GX T C W c n se X) {i : Nat} {x : Str} {p pos : Pos} (h1 : se.N[i]? = some x) (h2 : visB se.sc x = true) (h3 : okNm x = true) : PE X (.Call (.Name x p) [] [] pos) (evT C W c (.cac i .nil)) := by
  obtain ⟨k1, k2, _⟩ := okNm_ok h3
  refine ⟨fun pins s σ H Q I ⟨F, ρ, hs, hl, w⟩ => ?_⟩
  rw [ev] at w
  split at w
  · rename_i j ds e
    obtain ⟨v, e1, r⟩ := hl.2 i _ e
    rw [evs] at w
    have w : Aft Rep C (fun cl d H' => W cl d σ H') F H (if (bareDs ds && bareDs []) = true then bareR (c.cal (c.nf + j) (ds ++ []) []) F.st else .bad) fun _ H' _ v => Q v H' := w
    by_cases hb : bareDs ds = true
    · rw [if_pos (by rw [hb]; rfl), bareR_eq] at w
      obtain ⟨F0, e0, s0, rr, q⟩ := pur_at hs (Reps.one (d := .clo j ds) r) (by simp [freeDs, freeD, hb]) w
      obtain ⟨v', _, evv, r0, _⟩ := rr
      cases evv
      have r1 := r0
      obtain ⟨f, c', qn, ps, b, sc, cl, pm, ctv, ef, _, _, hf, _⟩ := r1
      subst ef
      refine wpAny_Call_Name_kw (thn ((pe_var (pos := p) (by rw [G.N]; exact h1) (by rw [G.sc]; exact visB_ok h2) k1 k2).run pins s σ H (fun v H1 => v = .ref f ∧ H1 = H) I ⟨_, e1, rfl, rfl⟩) fun u s1 ⟨v, H1, I1, r1, ea, eb⟩ => ?_)
      subst ea eb
      cases r1
      refine PySem.W.callWith_F0 ⟨_, _, _, _, (I1.hok f _ hf).1⟩ ?_
      refine wpAny_call (codeAny_mono (G.lam j X.A X.stack s1 _ F0 ds [] f [] [] Q (WE W σ) G.gd G.room I1.env0 s0 e0 r0 hb rfl rfl .nil q) fun out s2 z => ?_)
      rcases out with e | fl
      · exact G.ps σ pins _ s1 e s2 I1 z
      · cases fl with
        | ret u => exact I1.after z
        | _ => exact z.elim
    · rw [if_neg (by intro z; rw [Bool.and_eq_true] at z; exact hb z.1)] at w
      exact w.elim
  · exact w.elim
end
end MP
namespace MP
open PySem L2 PyProof.Rows
variable [Glo]
section
variable {X : Cx} {pins : List (Addr × Obj)} {σ : L2.St} {H : Hp} {s : Shared} {F : Fr}
theorem gets_reps {ρ : Sl} (hl : Slo F H ρ σ) : ∀ {is : List Nat} {ds : List D}, gets ρ is = some ds → ∃ vs, Reps F H ds vs ∧ is.map (fun i => σ[i]?) = vs.map fun v => some (some v)
  | [], ds, h => by
    cases h
    exact ⟨[], rfl, rfl⟩
  | i :: is, ds, h => by
    unfold gets at h
    split at h
    · rename_i d e
      cases q : gets ρ is with
      | none => rw [q] at h; cases h
      | some r =>
        rw [q] at h
        cases h
        obtain ⟨vs, h1, h2⟩ := gets_reps hl q
        obtain ⟨v, e1, rv⟩ := hl.2 i d e
        exact ⟨v :: vs, ⟨v, vs, rfl, rv, h1⟩, by rw [List.map_cons, List.map_cons, h2, e1]⟩
    · cases h
theorem clo_sub {cells : List (Str × Addr)} {names : List (Str × NameKind)} (hf : ∀ y ∈ names, y.2 = .free → ∃ c, cells.lookup y.1 = some c) {y : Str} {c : Addr} (e : (y, c) ∈ cloFrom cells names []) : cells.lookup y = some c ∧ (y, NameKind.free) ∈ names := by
  rcases cloFrom_mem e with h | ⟨h1, h2⟩
  · cases h
  · obtain ⟨c1, hc⟩ := hf _ h1 rfl
    have hc : cells.lookup y = some c1 := hc
    rw [hc] at h2
    rw [h2]
    exact ⟨hc, h1⟩
theorem capC {N : List Str} {sc : Scope} {H1 : Hp} (I : L2.Inv X pins σ H s) (hN : X.N = N) (hf : ∀ y ∈ sc.names, y.2 = .free → ∃ c, X.env.cells.lookup y.1 = some c) (hk : ∀ y c co, (y, c) ∈ cloFrom X.env.cells sc.names [] → s.heap.get? c = some co → H1 c = some (.frz co (.own c)) ∧ ¬ F.un c) :
    ∀ (is : List Nat) (ns : List Str) (ds : List D) (vs : List V), is.map (fun i => N[i]?) = ns.map some → (∀ y ∈ ns, X.env.scope.names.lookup y = some .cell ∧ sc.names.lookup y = some .free) → is.map (fun i => σ[i]?) = vs.map (fun v => some (some v)) → Reps F H1 ds vs → RepC F H1 (cloFrom X.env.cells sc.names []) ds ns
  | [], ns, ds, vs, h1, _, h3, r => by
    cases ns with
    | cons _ _ => cases h1
    | nil =>
      cases vs with
      | cons _ _ => cases h3
      | nil =>
        cases ds with
        | nil => rfl
        | cons _ _ =>
          obtain ⟨_, _, e, _⟩ := r
          cases e
  | i :: is, ns, ds, vs, h1, h2, h3, r => by
    cases ns with
    | nil => cases h1
    | cons y ns =>
      cases vs with
      | nil => cases h3
      | cons v vs =>
        rw [List.map_cons, List.map_cons, List.cons.injEq] at h1 h3
        cases ds with
        | nil =>
          have r : v :: vs = [] := r
          cases r
        | cons d ds =>
          obtain ⟨v', r', e, rd, rr⟩ := r
          cases e
          obtain ⟨k1, k2⟩ := h2 y List.mem_cons_self
          obtain ⟨m, _, hl⟩ := I.loc
          obtain ⟨u, ru, lk⟩ := hl i y v (by rw [hN]; exact h1.1) h3.1 (.inr (.inl k1))
          have hfree : (y, NameKind.free) ∈ sc.names := PySem.mem_of_lookup k2
          obtain ⟨c2, hc2⟩ := mem_lookup (cloFrom_has (cells := X.env.cells) (acc := []) hfree)
          have hcm := PySem.mem_of_lookup hc2
          have hc3 := (clo_sub hf hcm).1
          rcases lk with ⟨q, _⟩ | ⟨_, c, hc, co, ho, hd⟩
          · rw [show X.env.kindOf y = some .cell from k1] at q
            cases q
          · rw [hc3] at hc
            cases hc
            obtain ⟨g1, g2⟩ := hk y _ co hcm ho
            exact ⟨y, ns, _, co, u, v, rfl, hc2, g2, g1, hd, ru, rd, capC I hN hf hk is ns ds vs h1.2 (fun z hz => h2 z (List.mem_cons_of_mem _ hz)) h3.2 rr⟩
end
section
variable {T : Tab} {C : Nat → Addr} {W : WX} {c : Cxt} {n : Nat} {se : SE} {X : Cx}
theorem Reps.split {F : Fr} {H : Hp} : ∀ {ds es : List D} {vs : List V}, Reps F H (ds ++ es) vs → ∃ us ws, vs = us ++ ws ∧ us.length = ds.length ∧ Reps F H ds us ∧ Reps F H es ws
  | [], es, vs, h => ⟨[], vs, rfl, rfl, rfl, h⟩
  | d :: ds, es, vs, ⟨v, r, e, h1, h2⟩ => by
    obtain ⟨us, ws, e1, e2, h3, h4⟩ := Reps.split h2
    exact ⟨v :: us, ws, by rw [e, e1]; rfl, congrArg Nat.succ e2, ⟨v, us, rfl, h1, h3⟩, h4⟩
theorem bareDs_free : ∀ {ds : List D}, bareDs ds = true → freeDs ds = true
  | [], _ => rfl
  | d :: ds, h => by
    rw [bareDs, Bool.and_eq_true] at h
    rw [freeDs, bare_free h.1, bareDs_free h.2]
    rfl
theorem freeDs_app : ∀ {a b : List D}, freeDs a = true → freeDs b = true → freeDs (a ++ b) = true
  | [], _, _, h => h
  | d :: a, b, h, h' => by
    rw [freeDs, Bool.and_eq_true] at h
    rw [List.cons_append, freeDs, h.1, freeDs_app h.2 h']
    rfl
/-- a def called with a lambda -/
theorem pe_cllF (G : GX T C W c n se X) {f j : Nat} {is : List Nat} {es : Exs} {x : Str} {y : Expr} {ys : List Expr} {p pos : Pos} (h1 : T.fns[f]? = some x) (h2 : gloB se.sc x = true) (h3 : okNm x = true) (hy : okLam T se j is y = true) (ha : PA X ys (evsT C W c es)) (hs : noStars ys = true) :
    PE X (.Call (.Name x p) (y :: ys) [] pos) (evT C W c (.cll f j is es)) := by
  obtain ⟨k1, _, _⟩ := okNm_ok h3
  obtain ⟨hm, hk, fd, pms, Fn, hb, _⟩ := G.fns f x h1
  unfold okLam at hy
  split at hy
  · rename_i ps b sc el
    obtain ⟨lp, rfl⟩ := asLam_eq el
    simp only [Bool.and_eq_true, decide_eq_true_eq, List.all_eq_true] at hy
    obtain ⟨hml, hlk, hnd, his, hln, hsc⟩ := hy
    obtain ⟨c0, P0, hcode, TB, htm, htu⟩ := G.mkf hml
    obtain ⟨hlk, eln⟩ := G.lkT j ps b sc hlk
    have hdef : defaultsOf ps X.env = ([], []) := by
      obtain ⟨a1, a2, a3, a4, a5, a6, a7⟩ := ps
      unfold noDef at hnd
      rw [Bool.and_eq_true] at hnd
      have e1 : a7 = [] := List.isEmpty_iff.mp hnd.1
      have e2 : a5 = [] := List.isEmpty_iff.mp hnd.2
      subst e1 e2
      rfl
    refine ⟨fun pins s σ H Q I ⟨F, ρ, hs0, hl, w⟩ => wpAny_Call_Name_kw (ld_glob I (gloB_ok (by rw [G.sc]; exact h2)) hm ?_ k1)⟩
    rw [ev] at w
    split at w
    · rename_i ds hg
      by_cases hbd : bareDs ds = true
      · rw [if_pos hbd] at w
        have hfree : ∀ z ∈ sc.names, z.2 = .free → ∃ c, X.env.cells.lookup z.1 = some c := fun z hz e => by
          have h := hsc z hz
          rw [e] at h
          simp at h
          have := (hln z.1 h).2.1
          rw [← G.sc] at this
          exact I.ok.has z.1 (.inl this)
        have hst : noStars (.Lambda ps b sc lp :: ys) = true := by
          unfold noStars at hs ⊢
          rw [List.all_cons, hs]
          rfl
        refine PySem.W.callWith_K (h₀ := X.base) I.ok.mod.kin hk ?_ (star_cons rfl) (stars_any hs)
        show wpAny _ _ (spliced ((false, eval (.Lambda ps b sc lp) X.env) :: backTo pos (starEach ys X.env))) _ _ s
        refine Calls.spliced_cons (lam_new I TB hcode htm htu hs0.tab hdef hfree fun f' c' pm ctv H1 s1 I1 eN bk T1 hf hfn hge hco => ?_)
        obtain ⟨x1, st1⟩ := sto_extN hs0 eN bk T1
        have sz := I.sz
        have nfs : f' ∉ X.fs := I.nofs hge
        have nloc : f' ≠ X.env.locals := Nat.ne_of_gt (Nat.lt_of_lt_of_le I.lt hge)
        have I1' : L2.Inv X ((f', PySem.W.kla_obj "<lambda>" (X.env.qual ++ "<lambda>") ps b sc (cloFrom X.env.cells sc.names []) pm c' ctv) :: pins) σ H1 s1 := I1.pins_of fun q hq => by
          rcases List.mem_cons.mp hq with rfl | hq
          · exact ⟨hf, hfn, nloc, nfs, fun v z => by cases z⟩
          · exact I1.pin q (List.mem_append_right _ hq)
        refine thn (ha.run pos _ s1 σ H1 (fun vs H2 => ∃ F2 xs, Ext F H1 F2 H2 ∧ Sto F2 H2 ∧ Reps F2 H2 xs vs ∧ Aft Rep C (fun cl d H' => W cl d σ H') F2 H2 (if freeDs xs then bareR (c.cal f (.clo j ds :: xs) []) F2.st else .bad) fun _ H' _ v => Q v H') I1' ⟨F, ρ, st1, hl.ext x1, (Aft.bind (w.later x1)).mono fun F2 H2 xs vs x2 s2 r2 q2 => ⟨F2, xs, x2, s2, r2, q2⟩⟩) fun us s2 ⟨vs, H2, I2, rv, F2, xs, x2, st2, rx, q2⟩ => ⟨I2.kIn, ?_⟩
        by_cases hfx : freeDs xs = true
        · rw [if_pos hfx, bareR_eq] at q2
          obtain ⟨vcs, rc, hvc⟩ := gets_reps ((hl.ext x1).ext x2) hg
          obtain ⟨F0, e0, s0, rr, q0⟩ := pur_at st2 (rc.append rx) (freeDs_app (bareDs_free hbd) hfx) q2
          obtain ⟨ucs, uxs, eu, el1, r0c, r0x⟩ := Reps.split rr
          have el2 : ucs.length = vcs.length := by rw [el1, rc.length]
          obtain ⟨eu1, eu2⟩ := List.append_inj eu.symm el2
          subst eu1 eu2
          -- what is learnt
          obtain ⟨hpo, hpn, hpl, hpf, _⟩ := I2.pin (f', _) (List.mem_append_right _ List.mem_cons_self)
          have cin : ∀ y c1, (y, c1) ∈ cloFrom X.env.cells sc.names [] → X.env.cells.lookup y = some c1 ∧ y ∈ T.ln j := fun y c1 hm => by
            obtain ⟨q1, q2⟩ := clo_sub hfree hm
            have := hsc _ q2
            simp at this
            exact ⟨q1, this⟩
          have fre : Fre (obK s2.heap (f' :: (cloFrom X.env.cells sc.names []).map (·.2))) (frs X.stack) H2 s2.heap := by
            have nst : ∀ {a}, a ≠ X.env.locals → a ∉ X.fs → a ∉ frs X.stack := fun h1 h2 h3 => (List.mem_cons.mp (I2.stkSub _ h3)).elim h1 h2
            refine ⟨fun a o e => ?_, fun a o e => (obK_in e).2, fun a o e => ?_⟩
            · rcases List.mem_cons.mp (obK_in e).1 with rfl | hm
              · exact hpn
              · obtain ⟨⟨y, c1⟩, hm2, rfl⟩ := List.mem_map.mp hm
                exact I2.freeC y c1 (cin y c1 hm2).1
            · rcases List.mem_cons.mp (obK_in e).1 with rfl | hm
              · exact nst hpl hpf
              · obtain ⟨⟨y, c1⟩, hm2, rfl⟩ := List.mem_map.mp hm
                obtain ⟨g1, g2⟩ := cin y c1 hm2
                refine nst (I2.cne y c1 g1) fun hb => ?_
                have hge := I2.ok.cab y c1 (G.fn y (hln y g2).1) g1
                obtain ⟨_, o', ho', _⟩ := I2.ok.funs.mem hb
                exact absurd (Heap.lt_size ho') (Nat.not_lt.mpr hge)
          have xl : Ext F0 H2 F0 (lrn (obK s2.heap (f' :: (cloFrom X.env.cells sc.names []).map (·.2))) H2) := fre.xt
          have sl := fre.sto s0
          have ql := aft_fgt e0 fre s0 q0
          have kf : (obK s2.heap (f' :: (cloFrom X.env.cells sc.names []).map (·.2))).lookup f' = some (PySem.W.kla_obj "<lambda>" (X.env.qual ++ "<lambda>") ps b sc (cloFrom X.env.cells sc.names []) pm c' ctv) := obK_of hpo List.mem_cons_self
          have hc2 : H2 c' = some (LamX.CodeO c' (X.env.qual ++ "<lambda>")) := x2.stay hco (st1.nux hco) LamX.codeO_ne
          have hcl : lrn (obK s2.heap (f' :: (cloFrom X.env.cells sc.names []).map (·.2))) H2 c' = some (LamX.CodeO c' (X.env.qual ++ "<lambda>")) := fre.ext hc2
          have rclo : Rep F0 (lrn (obK s2.heap (f' :: (cloFrom X.env.cells sc.names []).map (·.2))) H2) (.clo j ds) (.ref f') := by
            refine ⟨f', c', _, ps, b, sc, _, pm, ctv, rfl, hlk, fre.un s0 kf, lrn_in kf, sl.nux hcl, hcl, fun y z c1 e1 e2 => I2.ok.inj y z c1 (cin _ _ (PySem.mem_of_lookup e1)).1 (cin _ _ (PySem.mem_of_lookup e2)).1, fun y c1 e1 => by rw [eln]; exact (cin _ _ (PySem.mem_of_lookup e1)).2, ?_⟩
            rw [eln]
            refine capC I2 G.N hfree (fun y c1 co hm ho => ?_) is (T.ln j) ds ucs his (fun y hy => ⟨by rw [G.sc]; exact (hln y hy).2.1, (hln y hy).2.2⟩) hvc (r0c.ext xl)
            have kc : (obK s2.heap (f' :: (cloFrom X.env.cells sc.names []).map (·.2))).lookup c1 = some co := obK_of ho (List.mem_cons_of_mem _ (List.mem_map.mpr ⟨_, hm, rfl⟩))
            exact ⟨lrn_in kc, fre.un s0 kc⟩
          have hl2 : (Value.ref f' :: us ++ []).length = pms.length := by
            have := Fn.wide (.ref f' :: uxs) (lrn (obK s2.heap (f' :: (cloFrom X.env.cells sc.names []).map (·.2))) H2) _ _ ⟨F0, .clo j ds :: xs, sl, ⟨_, _, rfl, rclo, r0x.ext xl⟩, by rw [e0]; exact ql⟩
            rw [List.append_nil, ← this, List.length_cons, List.length_cons, rv.length]
          have bd := hb s2 (.ref f' :: us) I2.kIn hl2
          rw [List.append_nil] at bd
          have e0' : Env0 X.prog X.w X.K X.mg X.base X.A X.stack s2 (lrn (obK s2.heap (f' :: (cloFrom X.env.cells sc.names []).map (·.2))) H2) := by
            have ee := I2.env0
            refine ⟨ee.frames, ee.mod, fun a o e => ⟨(ee.bs a o e).1, ?_⟩, ee.bsz, ee.funs, fun a hb => ?_, fre.hok ee.hok, ee.bare⟩
            · cases q : (obK s2.heap (f' :: (cloFrom X.env.cells sc.names []).map (·.2))).lookup a with
              | none => rw [lrn_out q]; exact (ee.bs a o e).2
              | some o' =>
                have lt : a < X.s_0.heap.objs.size := Nat.lt_of_lt_of_le (Heap.lt_size e) I2.ok.bsz
                rcases List.mem_cons.mp (obK_in q).1 with rfl | hm
                · exact absurd (Nat.lt_of_lt_of_le lt sz) (Nat.not_lt.mpr hge)
                · obtain ⟨⟨y, c1⟩, hm2, rfl⟩ := List.mem_map.mp hm
                  obtain ⟨g1, g2⟩ := cin y c1 hm2
                  exact absurd lt (Nat.not_lt.mpr (I2.ok.cab y c1 (G.fn y (hln y g2).1) g1))
            · cases q : (obK s2.heap (f' :: (cloFrom X.env.cells sc.names []).map (·.2))).lookup a with
              | none => rw [lrn_out q]; exact ee.frf a hb
              | some o' => exact absurd hb (fre.nfs a o' q)
          refine wpAny_call (codeAny_mono (Fn.goes X.A X.stack s2 _ ⟨[] ++ (.ref f' :: us), []⟩ (.ref f' :: us) (.ref f' :: uxs) (fun v H' => Q v (fgt (obK s2.heap (f' :: (cloFrom X.env.cells sc.names []).map (·.2))) H')) (fun cl d H' => W cl d σ (fgt (obK s2.heap (f' :: (cloFrom X.env.cells sc.names []).map (·.2))) H')) G.gd G.room e0' bd (.cons rfl rv) ⟨F0, .clo j ds :: xs, sl, ⟨_, _, rfl, rclo, r0x.ext xl⟩, by rw [e0]; exact ql⟩) fun out s3 z => ?_)
          rcases out with e | fl
          · exact G.ps σ _ _ s2 e s3 I2 (cx_fgt fre z)
          · cases fl with
            | ret u =>
              obtain ⟨v, H3, os, bare, un, hok, ru, qv⟩ := z
              have g3 := fre.got.un un
              obtain ⟨v', H4, I4, r4, q4⟩ := I2.after (Q := Q) ⟨v, _, os, bare, un_fgt fre un hok, g3.hok hok, ru, qv⟩
              exact ⟨v', H4, I4.pins_of fun q hq => I4.pin q (List.mem_append_right _ (List.mem_cons_of_mem _ hq)), r4, q4⟩
            | _ => exact z.elim
        · rw [if_neg hfx] at q2
          exact q2.elim
      · rw [if_neg hbd] at w
        exact w.elim
    · exact w.elim
  · cases hy
end
end MP
end
section
set_option maxRecDepth 100000
set_option maxHeartbeats 8000000
/-! MPSnd19: every expression that the static look lets. -/
namespace MP
open PySem L2
variable [Glo]
section
variable {T : Tab} {C : Nat → Addr} {c : Cxt} {n : Nat}
/-- an expression's reading, as a value, as a test -/
structure Good (C : Nat → Addr) (W : WX) (c : Cxt) (X : Cx) (x : Expr) (e : Ex) : Prop where
  v : PE X x (evT C W c e)
  t : PT X x (evTT C W c e)
  b : ∀ op xs pos, x = .BoolOp op xs pos → PW X x (evTT C W c e)
theorem Good.plain {W : WX} {X : Cx} {x : Expr} {e : Ex} (h : PE X x (evT C W c e)) (hx : ∀ w, isTrue x X.env w = (do let v ← w; standAt x.pos; holding [v] (truthy v))) (hb : ∀ op xs pos, x ≠ .BoolOp op xs pos) : Good C W c X x e :=
  ⟨h, tt_of h hx, fun op xs pos e => absurd e (hb op xs pos)⟩
theorem GX.blk {W : WX} {se : SE} {X : Cx} (G : GX T C W c n se X) (s : Shared) (H : Hp) (sc : Scope) (B : Addr) (cl : List (Str × Addr)) (fp : List Addr) : GX T C WF c n (se.blk sc) (X.blk s H sc (compEnvC sc cl B X.env) fp) where
  N := G.N
  nd := G.nd
  sc := by
    show relS sc X.env.scope = relS sc se.sc
    rw [G.sc]
  fn := fun x h => h
  calm := G.calm
  gd := G.gd
  room := G.room
  bl := G.bl
  con := G.con
  nf := G.nf
  fns := G.fns
  nx := G.nx
  exc := G.exc
  exk := G.exk
  sp := G.sp
  lam := G.lam
  lkT := G.lkT
  mkf := fun h => Bool.noConfusion h
  ps := fun σ pins H s e s' I h => by
    obtain ⟨a, B, H', cls, d, _, _, _, _, _, _, _, z⟩ := h
    exact z
theorem GX.sx {W : WX} {se : SE} {X : Cx} (G : GX T C W c n se X) : SX se X := ⟨G.N, G.nd, G.sc, G.fn, G.calm⟩
theorem pt_ife {X : Cx} {t a b : Expr} {tt ta tb : TT} {pos : Pos} (ht : PT X t tt) (ha : PT X a ta) (hb : PT X b tb) : PT X (.IfExp t a b pos) (fun σ H Q => tt σ H fun k H1 => if k = true then ta σ H1 Q else tb σ H1 Q) := by
  refine ⟨fun pins s σ H Q I h => ?_⟩
  show wpAny _ _ (do if ← isTrue t X.env (eval t X.env) then isTrue a X.env (eval a X.env) else isTrue b X.env (eval b X.env)) _ _ s
  refine wpAny_bind (thn (ht.run pins s σ H _ I h) fun k s1 ⟨H1, I1, q⟩ => ?_)
  cases k with
  | true =>
    rw [if_pos rfl] at q
    exact ha.run pins s1 σ H1 Q I1 q
  | false =>
    rw [if_neg Bool.false_ne_true] at q
    exact hb.run pins s1 σ H1 Q I1 q
theorem tIfT_of {W : WX} {t a b : Ex} {σ : L2.St} {H : Hp} {Q : Bool → Hp → Prop} (h : evTT C W c (.ife t a b) σ H Q) : evTT C W c t σ H fun k H1 => if k = true then evTT C W c a σ H1 Q else evTT C W c b σ H1 Q := by
  obtain ⟨F, ρ, hs, hl, w⟩ := h
  rw [ev, bind_assoc] at w
  refine ⟨F, ρ, hs, hl, (bindB (fun d st e => ?_) w).eq_mono fun F1 H1 k x s q => ?_⟩
  · cases d <;> first | (cases e; done) | rfl
  · cases k with
    | true =>
      rw [if_pos rfl]
      exact ⟨F1, ρ, s, hl.ext x, q⟩
    | false =>
      rw [if_neg Bool.false_ne_true]
      exact ⟨F1, ρ, s, hl.ext x, q⟩
theorem blt_of {W : WX} {b : Bf} {es : Exs} {σ : L2.St} {H : Hp} {Q : VK} (h : evT C W c (.blt b es) σ H Q) : evsT C W c es σ H fun vs H1 => rBlt b vs H1 Q := by
  obtain ⟨F, ρ, hs, hl, w⟩ := h
  rw [ev] at w
  refine ⟨F, ρ, hs, hl, (Aft.bind w).mono fun F1 H1 ds vs x1 s1 r1 q1 => ?_⟩
  cases e : bltD F1.st b ds with
  | none => rw [e] at q1; exact q1.elim
  | some z =>
    rw [e] at q1
    exact ⟨F1, ds, z, s1, r1, e, fun H' v x s r => q1 F1 H' v rfl x s r⟩
theorem pe_bltB {W : WX} {se : SE} {X : Cx} (G : GX T C W c n se X) {b : Bf} {es : Exs} {xs : List Expr} {id : String} {x : Str} {p pos : Pos} (hr : CallR X (.builtin id) (rBlt b)) (g : gloB se.sc x = true) (hm : x ∈ bnames) (hv : bootBuiltins x = some (.builtin id)) (hn : x ≠ "__name__") (hd : (x == ("__debug__" : Str)) = false) (ha : PA X xs (evsT C W c es)) (hs : noStars xs = true) (hne : xs.isEmpty = false) :
    PE X (.Call (.Name x p) xs [] pos) (evT C W c (.blt b es)) := by
  cases xs with
  | nil => cases hne
  | cons y ys =>
    have h1 : isStar y = false ∧ noStars ys = true := by
      unfold noStars at hs ⊢
      rw [List.all_cons, Bool.and_eq_true, Bool.not_eq_true'] at hs
      exact hs
    exact imp_e (pe_callB hr (gloB_ok (by rw [G.sc]; exact g)) (G.bl _ hm) hv ha hn hd (star_cons h1.1) (stars_any h1.2)) fun σ H Q w => blt_of w
theorem pe_bltT {W : WX} {se : SE} {X : Cx} (G : GX T C W c n se X) {b : Bf} {es : Exs} {xs : List Expr} {id : String} {x : Str} {p pos : Pos} (hr : CallR X (.type id) (rBlt b)) (g : gloB se.sc x = true) (hm : x ∈ bnames) (hv : bootBuiltins x = some (.type id)) (hn : x ≠ "__name__") (hd : (x == ("__debug__" : Str)) = false) (ha : PA X xs (evsT C W c es)) (hs : noStars xs = true) (hne : xs.isEmpty = false) :
    PE X (.Call (.Name x p) xs [] pos) (evT C W c (.blt b es)) := by
  cases xs with
  | nil => cases hne
  | cons y ys =>
    have h1 : isStar y = false ∧ noStars ys = true := by
      unfold noStars at hs ⊢
      rw [List.all_cons, Bool.and_eq_true, Bool.not_eq_true'] at hs
      exact hs
    exact imp_e (pe_callTy hr (gloB_ok (by rw [G.sc]; exact g)) (G.bl _ hm) hv ha hn hd (star_cons h1.1) (stars_any h1.2)) fun σ H Q w => blt_of w
theorem cr_none {X : Cx} {b : Bf} {f : Value} (h : ∀ st ds, bltD st b ds = none) : CallR X f (rBlt b) := fun pins s σ H xs us Q I r ⟨F, ds, z, hs, rs, hz, q⟩ => by
  rw [h] at hz
  cases hz
theorem ty_bits {K : PySem.W.Frag} {F : Fr} {H : Hp} {d : D} {v : V} (r : Rep F H d v) (h : metTy F.st .bits d = true) : tyV K "int" v H := by
  cases d with
  | int i =>
    have e : v = V.int i := r
    subst e
    exact (rfl : ("int" : String) = "int")
  | _ => cases h
theorem mt_bitsF {X : Cx} : MtR X "int.bit_length" (rMt .bits) := by
  intro pins s σ H x xs v us Q I rx rxs ⟨F, d, ds, z, st', hs, rd, rs, hm, q⟩
  rcases ds with _ | ⟨e, r⟩
  rotate_left
  · cases d <;> cases hm
  have ex : xs = [] := rs
  subst ex
  cases d with
  | int i =>
    have hm : some (D.int (Builtin.Int.intBits i : Nat), F.st) = some (z, st') := hm
    cases hm
    have rd : x = V.int i := rd
    subst rd
    obtain ⟨t, rfl⟩ := rx
    cases rxs
    exact PyProof.Rows.call_int_bit_length ⟨.int _, H, I.tok _, ⟨_, rfl⟩, q F H _ rfl (Ext.refl F H) hs rfl⟩
  | _ => cases hm
theorem mt_countF {X : Cx} : MtR X "list.count" (rMt .count) := by
  intro pins s σ H x xs v us Q I rx rxs ⟨F, d, ds, z, st', hs, rd, rs, hm, q⟩
  rcases ds with _ | ⟨e, _ | ⟨_, _⟩⟩
  · cases hm
  rotate_left
  · cases e <;> cases hm
  obtain ⟨y, rfl, re⟩ := one_rep rs
  cases e with
  | int k =>
    have re : y = V.int k := re
    subst re
    have hm : (match (items F.st d).bind intsD with
      | some ns => some (D.int (ns.count k : Nat), F.st)
      | none => none) = some (z, st') := hm
    cases hq : (items F.st d).bind intsD with
    | none => rw [hq] at hm; cases hm
    | some ns =>
      rw [hq] at hm
      cases hm
      obtain ⟨a, e, ha⟩ := items_ints hs rd hq
      subst e
      exact mt_lcount pins s σ H _ _ v us Q I rx rxs ⟨a, ns, k, rfl, rfl, SqL.of ha, q F H _ rfl (Ext.refl F H) hs rfl⟩
  | _ => cases hm
theorem mt_none {X : Cx} {m : Mt} {id : String} (h : ∀ st d ds, metD st m d ds = none) : MtR X id (rMt m) := fun pins s σ H x xs v us Q I rx rxs ⟨F, d, ds, z, st', hs, rd, rs, hm, q⟩ => by
  rw [h] at hm
  cases hm
/-- the built-ins that take their arguments as they are -/
def isPl : Bf → Bool
  | .isi _ => false
  | .isis _ => false
  | .lrng => false
  | _ => true
theorem pe_bltP {W : WX} {se : SE} {X : Cx} (G : GX T C W c n se X) {b : Bf} {es : Exs} {xs : List Expr} {p pos : Pos} (hb : isPl b = true) (g : gloB se.sc (blName b) = true) (ha : PA X xs (evsT C W c es)) (hs : noStars xs = true) (hne : xs.isEmpty = false) :
    PE X (.Call (.Name (blName b) p) xs [] pos) (evT C W c (.blt b es)) := by
  cases b with
  | len => exact pe_bltB G cr_lenF g (by decide) boot_len (by decide) (by decide) ha hs hne
  | any => exact pe_bltB G (cr_anyF G.calm) g (by decide) PyProof.Rows.boot_any (by decide) (by decide) ha hs hne
  | all => exact pe_bltB G (cr_allF G.calm) g (by decide) PyProof.Rows.boot_all (by decide) (by decide) ha hs hne
  | sum => exact pe_bltB (id := "sum") G (cr_sumF G.calm) g (by decide) (by decide +kernel) (by decide) (by decide) ha hs hne
  | sum2 => exact pe_bltB (id := "sum") G (cr_none fun st ds => by cases ds <;> rfl) g (by decide) (by decide +kernel) (by decide) (by decide) ha hs hne
  | sorted => exact pe_bltB G (cr_sortedF G.room) g (by decide) PyProof.Rows.boot_sorted (by decide) (by decide) ha hs hne
  | int => exact pe_bltT G cr_intF g (by decide) PyProof.Rows.boot_int (by decide) (by decide) ha hs hne
  | str => exact pe_bltT G (cr_strF G.room G.gd) g (by decide) PyProof.Rows.boot_str (by decide) (by decide) ha hs hne
  | list => exact pe_bltT G cr_listF g (by decide) PyProof.Rows.boot_list (by decide) (by decide) ha hs hne
  | tuple => exact pe_bltT G cr_tupleF g (by decide) PyProof.Rows.boot_tuple (by decide) (by decide) ha hs hne
  | max2 => exact pe_bltB G (cr_max2F G.calm) g (by decide) PyProof.Rows.boot_max (by decide) (by decide) ha hs hne
  | min2 => exact pe_bltB (id := "min") G (cr_min2F G.calm) g (by decide) (by decide +kernel) (by decide) (by decide) ha hs hne
  | max => exact pe_bltB G (cr_maxF G.calm) g (by decide) PyProof.Rows.boot_max (by decide) (by decide) ha hs hne
  | abs => exact pe_bltB (id := "abs") G cr_absF g (by decide) (by decide +kernel) (by decide) (by decide) ha hs hne
  | repr => exact pe_bltB G (cr_repr G.room G.gd) g (by decide) PyProof.Rows.boot_repr (by decide) (by decide) ha hs hne
  | ord => exact pe_bltB G cr_ordF g (by decide) PyProof.Rows.boot_ord (by decide) (by decide) ha hs hne
  | _ => cases hb

mutual
theorem okE_ok : ∀ (e : Ex) {W : WX} {se : SE} {X : Cx} {x : Expr}, GX T C W c n se X → okE T se e x = true → Good C W c X x e
  | .nm i, W, se, X, x, G, h => by
    rw [okE] at h
    split at h
    · rename_i m hm
      obtain ⟨p, rfl⟩ := asName_eq hm
      simp only [Bool.and_eq_true, decide_eq_true_eq] at h
      exact .plain (pe_nmF G h.1 h.2.1 h.2.2) (fun _ => rfl) fun _ _ _ z => nomatch z
    · cases h
  | .kn d, W, se, X, x, G, h => by
    rw [okE] at h
    split at h
    · rename_i m hm
      obtain ⟨j, p, rfl⟩ := asConst_eq hm
      exact .plain (pe_knF h) (fun _ => rfl) fun _ _ _ z => nomatch z
    · cases h
  | .con g, W, se, X, x, G, h => by
    rw [okE] at h
    split at h
    · rename_i m hm
      obtain ⟨p, rfl⟩ := asName_eq hm
      simp only [Bool.and_eq_true, decide_eq_true_eq] at h
      exact .plain (pe_conF G h.1 h.2.1 h.2.2) (fun _ => rfl) fun _ _ _ z => nomatch z
    · cases h
  | .bin op a b, W, se, X, x, G, h => by
    rw [okE] at h
    split at h
    · rename_i a' o b' hm
      obtain ⟨p, rfl⟩ := asBin_eq hm
      simp only [Bool.and_eq_true] at h
      exact .plain (pe_bin h.1 (okE_ok a G h.2.1).v (okE_ok b G h.2.2).v) (fun _ => rfl) fun _ _ _ z => nomatch z
    · cases h
  | .neg a, W, se, X, x, G, h => by
    rw [okE] at h
    split at h
    · rename_i a' hm
      obtain ⟨p, rfl⟩ := asUn_eq hm
      refine .plain (imp_e (pe_un un_neg (okE_ok a G h).v) fun σ H Q ⟨F, ρ, hs, hl, w⟩ => ?_) (fun _ => rfl) fun _ _ _ z => nomatch z
      rw [ev] at w
      refine ⟨F, ρ, hs, hl, (Aft.bind w).mono fun F1 H1 d v x1 s1 r1 q1 => ?_⟩
      cases d with
      | int i => exact ⟨i, r1, q1.val s1 rfl⟩
      | _ => exact q1.elim
    · cases h
  | .cmp op a b, W, se, X, x, G, h => by
    rw [okE] at h
    split at h
    · rename_i a' o b' hm
      obtain ⟨p, rfl⟩ := asCmp1_eq hm
      simp only [Bool.and_eq_true, Bool.not_eq_true'] at h
      have ha := (okE_ok a G h.2.2.1).v
      have hb := (okE_ok b G h.2.2.2).v
      refine ⟨pe_cmp G.room h.1 h.2.1 ha hb, ?_, fun _ _ _ z => nomatch z⟩
      exact imp_t (pt_cmpR (op_cmp G.room h.1) ha hb h.2.1) fun σ H Q w => evT_cmp (e := .cmp op a b) (f := fun st x y => cmpD st op x y) (fun _ _ => by rw [ev]) (tt_val w)
    · cases h
  | .chn o p a b d, W, se, X, x, G, h => by
    rw [okE] at h
    split at h
    · rename_i a' o' b' p' d' hm
      obtain ⟨p, rfl⟩ := asCmp2_eq hm
      simp only [Bool.and_eq_true, Bool.not_eq_true'] at h
      obtain ⟨h1, h2, h3, h4, h5, h6⟩ := h
      have ha := (okE_ok a G h4).v
      have hb := (okE_ok b G h5).v
      have hd := (okE_ok d G h6).v
      refine ⟨pe_chn G.room h1 h2 h3 ha hb hd, ?_, fun _ _ _ z => nomatch z⟩
      exact imp_t (pt_chain (op_cmp G.room h1) (op_cmp G.room h2) ha hb hd h3) fun σ H Q w => evT_chn (tt_val w)
    · cases h
  | .and a b, W, se, X, x, G, h => by
    rw [okE] at h
    split at h
    · rename_i a' b' hm
      rw [Bool.and_eq_true] at h
      have ha := okE_ok a G h.1
      have hb := okE_ok b G h.2
      rcases asAnd_eq hm with ⟨p, rfl⟩ | ⟨b1, c1, r, p, rfl, rfl⟩
      · have hw : PW X (.BoolOp .And [a', b'] p) (evTT C W c (.and a b)) := imp_w (pw_and ha.t (pw_and1 hb.t)) fun σ H Q w => tAnd_of w
        exact ⟨imp_e (pe_and ha.v (pe_one hb.v)) fun σ H Q w => tAndV_of w, hw.pt, fun _ _ _ _ => hw⟩
      · have hw : PW X (.BoolOp .And (a' :: b1 :: c1 :: r) p) (evTT C W c (.and a b)) := imp_w (pw_and ha.t (hb.b _ _ _ rfl)) fun σ H Q w => tAnd_of w
        exact ⟨imp_e (pe_and ha.v hb.v) fun σ H Q w => tAndV_of w, hw.pt, fun _ _ _ _ => hw⟩
    · cases h
  | .or a b, W, se, X, x, G, h => by
    rw [okE] at h
    split at h
    · rename_i a' b' hm
      rw [Bool.and_eq_true] at h
      have ha := okE_ok a G h.1
      have hb := okE_ok b G h.2
      rcases asOr_eq hm with ⟨p, rfl⟩ | ⟨b1, c1, r, p, rfl, rfl⟩
      · have hw : PW X (.BoolOp .Or [a', b'] p) (evTT C W c (.or a b)) := imp_w (pw_or ha.t (pw_or1 hb.t)) fun σ H Q w => tOr_of w
        exact ⟨imp_e (pe_or ha.v (pe_one hb.v)) fun σ H Q w => tOrV_of w, hw.pt, fun _ _ _ _ => hw⟩
      · have hw : PW X (.BoolOp .Or (a' :: b1 :: c1 :: r) p) (evTT C W c (.or a b)) := imp_w (pw_or ha.t (hb.b _ _ _ rfl)) fun σ H Q w => tOr_of w
        exact ⟨imp_e (pe_or ha.v hb.v) fun σ H Q w => tOrV_of w, hw.pt, fun _ _ _ _ => hw⟩
    · cases h
  | .not a, W, se, X, x, G, h => by
    rw [okE] at h
    split at h
    · rename_i a' hm
      obtain ⟨p, rfl⟩ := asUn_eq hm
      have ha := okE_ok a G h
      exact ⟨imp_e (pe_not ha.v) fun σ H Q w => tNotV_of w, imp_t (pt_not ha.t) fun σ H Q w => tNot_of w, fun _ _ _ z => nomatch z⟩
    · cases h
  | .ife t a b, W, se, X, x, G, h => by
    rw [okE] at h
    split at h
    · rename_i t' a' b' hm
      obtain ⟨p, rfl⟩ := asIf_eq hm
      simp only [Bool.and_eq_true] at h
      have ht := okE_ok t G h.1
      have ha := okE_ok a G h.2.1
      have hb := okE_ok b G h.2.2
      exact ⟨imp_e (pe_ifExp ht.t ha.v hb.v) fun σ H Q w => tIf_of w, imp_t (pt_ife ht.t ha.t hb.t) fun σ H Q w => tIfT_of w, fun _ _ _ z => nomatch z⟩
    · cases h
  | .lst es, W, se, X, x, G, h => by
    rw [okE] at h
    split at h
    · rename_i xs hm
      obtain ⟨p, rfl⟩ := asList_eq hm
      exact .plain (pe_lstF (okEs_ok es G h)) (fun _ => rfl) fun _ _ _ z => nomatch z
    · cases h
  | .tup es, W, se, X, x, G, h => by
    rw [okE] at h
    split at h
    · rename_i xs hm
      obtain ⟨k, p, rfl⟩ := asTup_eq hm
      exact .plain (pe_tupF (okEs_ok es G h)) (fun _ => rfl) fun _ _ _ z => nomatch z
    · cases h
  | .dic0, W, se, X, x, G, h => by
    rw [okE] at h
    obtain ⟨p, rfl⟩ := isDic0_eq h
    exact .plain pe_dic0F (fun _ => rfl) fun _ _ _ z => nomatch z
  | .sub a b, W, se, X, x, G, h => by
    rw [okE] at h
    split at h
    · rename_i a' b' hm
      obtain ⟨p, rfl⟩ := asSub_eq hm
      simp only [Bool.and_eq_true, Bool.not_eq_true'] at h
      exact .plain (pe_subF h.1 (okE_ok a G h.2.1).v (okE_ok b G h.2.2).v) (fun _ => rfl) fun _ _ _ z => nomatch z
    · cases h
  | .slc a lo hi, W, se, X, x, G, h => by
    rw [okE] at h
    split at h
    · rename_i a' l r hm
      obtain ⟨q, p, rfl⟩ := asSlc_eq hm
      simp only [Bool.and_eq_true] at h
      exact .plain (pe_slcF (okE_ok a G h.1).v (okO_ok lo G h.2.1) (okO_ok hi G h.2.2)) (fun _ => rfl) fun _ _ _ z => nomatch z
    · cases h
  | .rev a, W, se, X, x, G, h => by
    rw [okE] at h
    split at h
    · rename_i a' hm
      obtain ⟨k, p1, p2, p3, p, rfl⟩ := asRev_eq hm
      exact .plain (pe_revF (okE_ok a G h).v) (fun _ => rfl) fun _ _ _ z => nomatch z
    · cases h
  | .rvb a n, W, se, X, x, G, h => by
    rw [okE] at h
    split at h
    · rename_i a' m hm
      obtain ⟨j, p0, k, p1, p2, p3, p, rfl⟩ := asRvb_eq hm
      simp only [Bool.and_eq_true, decide_eq_true_eq] at h
      obtain ⟨h1, h2⟩ := h
      subst h1
      exact .plain (pe_rvbF (okE_ok a G h2).v) (fun _ => rfl) fun _ _ _ z => nomatch z
    · cases h
  | .lc y tg tp s i own, W, se, X, x, G, h => by
    rw [okE] at h
    split at h
    · rename_i y' tg' it ifs sc hm
      obtain ⟨p, rfl⟩ := asLc_eq hm
      simp only [Bool.and_eq_true, decide_eq_true_eq] at h
      obtain ⟨h0, h1, h2, h3, h4, h5, h6, h7⟩ := h
      have hi := okS_ok s G h1
      have bk := fun s H B cl fp => G.blk s H sc B cl fp
      rw [List.all_eq_true] at h7
      have pe := pe_lc G.calm (by rw [G.N]; exact G.nd) hi (own := ownS se.N own) (by rw [G.N, G.sc]; exact blkOk_by h5) (fun s H B cl fp => pg_F (bk s H B cl fp).sx h4) (fun s H B cl fp => okT_ok i (bk s H B cl fp) h2) (fun s H B cl fp => (okE_ok y (bk s H B cl fp) h3).v) (notSet_ok h0) (pos := p)
      rw [h6] at pe
      exact .plain (imp_e pe fun σ H Q w => tLc_of (fun j hj => by simpa using h7 j hj) w) (fun _ => rfl) fun _ _ _ z => nomatch z
    · cases h
  | .cal f es, W, se, X, x, G, h => by
    rw [okE] at h
    split at h
    · rename_i m xs hm
      obtain ⟨p, q, rfl⟩ := asCall_eq hm
      simp only [Bool.and_eq_true, decide_eq_true_eq, Bool.not_eq_true'] at h
      obtain ⟨h1, h2, h3, h4, h5, h6⟩ := h
      exact .plain (pe_calF G h1 h2 h3 (okEs_ok es G h4) h5 h6 fun σ H Q w => cal_of w) (fun _ => rfl) fun _ _ _ z => nomatch z
    · cases h
  | .pur f es, W, se, X, x, G, h => by
    rw [okE] at h
    split at h
    · rename_i m xs hm
      obtain ⟨p, q, rfl⟩ := asCall_eq hm
      simp only [Bool.and_eq_true, decide_eq_true_eq, Bool.not_eq_true'] at h
      obtain ⟨h1, h2, h3, h4, h5, h6⟩ := h
      exact .plain (pe_calF G h1 h2 h3 (okEs_ok es G h4) h5 h6 fun σ H Q w => pur_of w) (fun _ => rfl) fun _ _ _ z => nomatch z
    · cases h
  | .fn f, W, se, X, x, G, h => by
    rw [okE] at h
    split at h
    · rename_i m hm
      obtain ⟨p, rfl⟩ := asName_eq hm
      simp only [Bool.and_eq_true, decide_eq_true_eq] at h
      exact .plain (pe_fnF G h.1 h.2.1 h.2.2) (fun _ => rfl) fun _ _ _ z => nomatch z
    · cases h
  | .cav i es, W, se, X, x, G, h => by
    rw [okE] at h
    split at h
    · rename_i m xs hm
      obtain ⟨p, q, rfl⟩ := asCall_eq hm
      simp only [Bool.and_eq_true, decide_eq_true_eq, Bool.not_eq_true'] at h
      obtain ⟨h1, h2, h3, h4, h5, h6⟩ := h
      exact .plain (pe_cavF G h1 h2 h3 (okEs_ok es G h4) h5 h6) (fun _ => rfl) fun _ _ _ z => nomatch z
    · cases h
  | .cac i es, W, se, X, x, G, h => by
    rw [okE] at h
    split at h
    · rename_i m hm
      obtain ⟨p, q, rfl⟩ := asCall_eq hm
      simp only [Bool.and_eq_true, decide_eq_true_eq] at h
      obtain ⟨h1, h2, h3, h4⟩ := h
      cases es with
      | nil => exact .plain (pe_cacF G h1 h2 h3) (fun _ => rfl) fun _ _ _ z => nomatch z
      | cons _ _ => simp [okEs] at h4
    · cases h
  | .cll f j is es, W, se, X, x, G, h => by
    rw [okE] at h
    split at h
    · rename_i m y xs hm
      obtain ⟨p, q, rfl⟩ := asCall_eq hm
      simp only [Bool.and_eq_true, decide_eq_true_eq] at h
      obtain ⟨h1, h2, h3, h4, h5, h6⟩ := h
      exact .plain (pe_cllF G h1 h2 h3 h4 (okEs_ok es G h5) h6) (fun _ => rfl) fun _ _ _ z => nomatch z
    · cases h
  | .cak f es ks ix, W, se, X, x, G, h => by
    rw [okE] at h
    split at h
    · rename_i m xs kws hm
      obtain ⟨p, q, rfl⟩ := asCallK_eq hm
      simp only [Bool.and_eq_true, decide_eq_true_eq, Bool.not_eq_true'] at h
      obtain ⟨h1, h2, h3, h4, h5, h6, h7, h8⟩ := h
      exact .plain (pe_cakF G h1 h2 h3 (okEs_ok es G h4) (okK_ok ks G h5) h4 h5 h6 h7 h8) (fun _ => rfl) fun _ _ _ z => nomatch z
    · cases h
  | .val e, W, se, X, x, G, h => by
    rw [okE] at h
    split at h
    · rename_i o a hm
      obtain ⟨p, rfl⟩ := asAttr_eq hm
      simp only [Bool.and_eq_true, decide_eq_true_eq] at h
      obtain ⟨h1, h2, h3⟩ := h
      subst h1
      exact .plain (pe_valF G (okE_ok e G h2).v h3) (fun _ => rfl) fun _ _ _ z => nomatch z
    · cases h
  | .blt b es, W, se, X, x, G, h => by
    rw [okE] at h
    split at h
    · rename_i m xs hm
      obtain ⟨p, q, rfl⟩ := asCall_eq hm
      rw [Bool.and_eq_true, Bool.and_eq_true, decide_eq_true_eq] at h
      obtain ⟨h1, h2, h3⟩ := h
      subst h1
      refine .plain ?_ (fun _ => rfl) fun _ _ _ z => nomatch z
      have ih : ∀ {y : Expr}, okEs T se es [y] = true → ∃ e, es = .cons e .nil ∧ PE X y (evT C W c e) := fun {y} h => by
        match es, h with
        | .cons e .nil, h =>
          rw [okEs, Bool.and_eq_true] at h
          exact ⟨e, rfl, (okE_ok e G h.1).v⟩
        | .cons _ (.cons _ _), h => simp [okEs] at h
        | .nil, h => simp [okEs] at h
      have pl : isPl b = true → (okEs T se es xs && (noStars xs && !xs.isEmpty)) = true → PE X (.Call (.Name (blName b) p) xs [] q) (evT C W c (.blt b es)) := fun hb h3 => by
        simp only [Bool.and_eq_true, Bool.not_eq_true'] at h3
        exact pe_bltP G hb h2 (okEs_ok es G h3.1) h3.2.1 h3.2.2
      cases b with
      | isi t =>
        simp only at h3
        split at h3
        · rename_i y z
          split at h3
          · rename_i tn hz
            obtain ⟨q', rfl⟩ := asName_eq hz
            simp only [Bool.and_eq_true, Bool.not_eq_true'] at h3
            obtain ⟨k1, k2, k3, k4, k5⟩ := h3
            obtain ⟨e, rfl, pe⟩ := ih k2
            cases t with
            | exc k =>
              simp only [decide_eq_true_eq] at k5
              exact pe_isixF G h2 k5 k3 k4 pe k1
            | ver =>
              simp only [decide_eq_true_eq] at k5
              subst k5
              exact pe_isivF G h2 k3 pe k1
            | _ =>
              simp only [decide_eq_true_eq] at k5
              subst k5
              exact pe_isiF G rfl h2 k3 pe k1
          · cases h3
        · cases h3
      | isis ts =>
        simp only at h3
        split at h3
        · rename_i y z
          split at h3
          · rename_i zs hz
            obtain ⟨kk, q', rfl⟩ := asTup_eq hz
            simp only [Bool.and_eq_true, Bool.not_eq_true', decide_eq_true_eq, List.all_eq_true] at h3
            obtain ⟨k1, k2, k3, k4, k5, k6⟩ := h3
            obtain ⟨e, rfl, pe⟩ := ih k4
            exact pe_isisF G h2 k5 (fun t ht => k6 t ht) (by intro z; rw [z] at k2; cases k2) (by show ts.length ≤ 16777216; omega) pe k1
          · cases h3
        · cases h3
      | lrng =>
        simp only at h3
        split at h3
        · rename_i y
          split at h3
          · rename_i r a hz
            obtain ⟨p', q', rfl⟩ := asCall_eq hz
            simp only [Bool.and_eq_true, Bool.not_eq_true', decide_eq_true_eq] at h3
            obtain ⟨k1, k2, k3, k4⟩ := h3
            subst k1
            obtain ⟨e, rfl, pe⟩ := ih k3
            exact pe_lrngF G h2 k2 pe k4
          · cases h3
        · cases h3
      | _ => exact pl rfl h3
    · cases h
  | .met m a es, W, se, X, x, G, h => by
    rw [okE] at h
    split at h
    · rename_i o nm xs hm
      obtain ⟨ap, cp, rfl, hl⟩ := asMeth_eq hm
      simp only [Bool.and_eq_true, decide_eq_true_eq] at h
      obtain ⟨h1, h2, h3, h4, h5, h6⟩ := h
      subst h1
      have ho := (okE_ok a G h2).v
      have ha := okEs_ok es G h3
      have hn : xs = [] → es = .nil := fun e => by
        subst e
        cases es with
        | nil => rfl
        | cons _ _ => simp [okEs] at h3
      have l : ∀ (F : Fr) (H : Hp) d v, Sto F H → Rep F H d v → (items F.st d).isSome = true → tyV X.K "list" v H := fun F H d v s r h => ty_list s r h
      have l2 : ∀ (F : Fr) (H : Hp) d v, Sto F H → Rep F H d v → metTy F.st .join d = true → tyV X.K "str" v H := fun F H d v s r h => ty_str h r
      refine .plain ?_ (fun _ => rfl) fun _ _ _ z => nomatch z
      cases m with
      | append => exact meth1 PySem.F.plainAttrs_list PySem.F.slot_list_append PySem.F.type_list_append mt_appendF l ho ha h4 h5 h6 hl hn
      | pop => exact meth1 PySem.F.plainAttrs_list PySem.F.slot_list_pop PySem.F.type_list_pop mt_popF l ho ha h4 h5 h6 hl hn
      | popAt => exact meth1 PySem.F.plainAttrs_list PySem.F.slot_list_pop PySem.F.type_list_pop mt_popAtF l ho ha h4 h5 h6 hl hn
      | index => exact meth1 PySem.F.plainAttrs_list PySem.F.slot_list_index PySem.F.type_list_index (mt_indexF G.room) l ho ha h4 h5 h6 hl hn
      | join => exact meth1 PySem.F.plainAttrs_str PySem.F.slot_str_join PySem.F.type_str_join mt_joinF l2 ho ha h4 h5 h6 hl hn
      | split => exact meth1 PySem.F.plainAttrs_str PySem.F.slot_str_split PySem.F.type_str_split mt_splitF l2 ho ha h4 h5 h6 hl hn
      | count => exact meth1 PySem.F.plainAttrs_list PySem.F.slot_list_count PySem.F.type_list_count mt_countF l ho ha h4 h5 h6 hl hn
      | bits => exact meth1 (ty := "int") PySem.F.plainAttrs_int PyProof.Rows.slot_int_bit_length PyProof.Rows.type_int_bit_length mt_bitsF (fun F H d v s r h => ty_bits r h) ho ha h4 h5 h6 hl hn
    · cases h
  | .mk e, W, se, X, x, G, h0 => match e, h0 with
    | .lst es, h => by
      simp only [okE, Bool.true_and] at h
      split at h
      · rename_i xs hm
        obtain ⟨p, rfl⟩ := asList_eq hm
        exact .plain (pe_mkLst (okEs_ok es G h)) (fun _ => rfl) fun _ _ _ z => nomatch z
      · cases h
    | .dic0, h => by
      simp only [okE, Bool.true_and] at h
      obtain ⟨p, rfl⟩ := isDic0_eq h
      exact .plain pe_mkDic (fun _ => rfl) fun _ _ _ z => nomatch z
    | .bin op a b, h => by
      cases op with
      | add =>
        simp only [okE, Bool.true_and] at h
        split at h
        · rename_i a' o b' hm
          obtain ⟨p, rfl⟩ := asBin_eq hm
          simp only [Bool.and_eq_true] at h
          cases o <;> first | (cases h.1; done) | skip
          exact .plain (pe_mkAdd (okE_ok a G h.2.1).v (okE_ok b G h.2.2).v) (fun _ => rfl) fun _ _ _ z => nomatch z
        · cases h
      | _ => simp [okE] at h
    | .blt b (.cons e .nil), h => by
      cases b with
      | list =>
        simp only [okE, Bool.true_and] at h
        split at h
        · rename_i m xs hm
          obtain ⟨p, q, rfl⟩ := asCall_eq hm
          simp only [Bool.and_eq_true, decide_eq_true_eq, Bool.not_eq_true'] at h
          obtain ⟨h1, h2, h3, h4, h5⟩ := h
          subst h1
          rcases xs with _ | ⟨y, _ | ⟨_, _⟩⟩
          · cases h5
          · rw [okEs, Bool.and_eq_true] at h3
            have hsy : isStar y = false := by simpa [noStars] using h4
            exact .plain (pe_mkList G h2 (okE_ok e G h3.1).v hsy) (fun _ => rfl) fun _ _ _ z => nomatch z
          · simp [okEs] at h3
        · cases h
      | _ => simp [okE] at h
    | .lc y tg tp s i own, h => by
      simp only [okE, Bool.true_and] at h
      split at h
      · rename_i y' tg' it ifs sc hm
        obtain ⟨p, rfl⟩ := asLc_eq hm
        simp only [Bool.and_eq_true, decide_eq_true_eq] at h
        obtain ⟨h0, h1, h2, h3, h4, h5, h6, h7⟩ := h
        have hi := okS_ok s G h1
        have bk := fun s H B cl fp => G.blk s H sc B cl fp
        rw [List.all_eq_true] at h7
        have pe := pe_lc G.calm (by rw [G.N]; exact G.nd) hi (own := ownS se.N own) (by rw [G.N, G.sc]; exact blkOk_by h5) (fun s H B cl fp => pg_F (bk s H B cl fp).sx h4) (fun s H B cl fp => okT_ok i (bk s H B cl fp) h2) (fun s H B cl fp => (okE_ok y (bk s H B cl fp) h3).v) (notSet_ok h0) (pos := p)
        rw [h6] at pe
        exact .plain (imp_e pe fun σ H Q w => mkLc_of (fun j hj => by simpa using h7 j hj) w) (fun _ => rfl) fun _ _ _ z => nomatch z
      · cases h
    | .nm _, h | .kn _, h | .con _, h | .neg _, h | .cmp _ _ _, h | .chn _ _ _ _ _, h | .and _ _, h | .or _ _, h | .not _, h | .ife _ _ _, h | .tup _, h | .sub _ _, h | .slc _ _ _, h | .rev _, h | .rvb _ _, h | .cal _ _, h | .pur _ _, h | .fn _, h | .cav _ _, h | .cac _ _, h | .cll _ _ _ _, h | .cak _ _ _ _, h | .val _, h | .met _ _ _, h | .mk _, h | .frz _, h => by simp [okE] at h
    | .blt b .nil, h => by cases b <;> simp [okE] at h
    | .blt b (.cons _ (.cons _ _)), h => by cases b <;> simp [okE] at h
  | .frz e, W, se, X, x, G, h => by
    have g := fun h2 => okE_ok e G (x := x) h2
    cases e with
    | nm i =>
      simp only [okE, Bool.true_and] at h
      have g := g (by rw [okE]; exact h)
      split at h
      · rename_i m hm
        obtain ⟨p, rfl⟩ := asName_eq hm
        exact .plain (pe_frzF g.v) (fun _ => rfl) fun _ _ _ z => nomatch z
      · cases h
    | cal f es =>
      simp only [okE, Bool.true_and] at h
      have g := g (by rw [okE]; exact h)
      split at h
      · rename_i m xs hm
        obtain ⟨p, q, rfl⟩ := asCall_eq hm
        exact .plain (pe_frzF g.v) (fun _ => rfl) fun _ _ _ z => nomatch z
      · cases h
    | cav f es =>
      simp only [okE, Bool.true_and] at h
      have g := g (by rw [okE]; exact h)
      split at h
      · rename_i m xs hm
        obtain ⟨p, q, rfl⟩ := asCall_eq hm
        exact .plain (pe_frzF g.v) (fun _ => rfl) fun _ _ _ z => nomatch z
      · cases h
    | cak f es ks ix =>
      simp only [okE, Bool.true_and] at h
      have g := g (by rw [okE]; exact h)
      split at h
      · rename_i m xs kws hm
        obtain ⟨p, q, rfl⟩ := asCallK_eq hm
        exact .plain (pe_frzF g.v) (fun _ => rfl) fun _ _ _ z => nomatch z
      · cases h
    | _ => simp [okE] at h
theorem okEs_ok : ∀ (es : Exs) {W : WX} {se : SE} {X : Cx} {xs : List Expr}, GX T C W c n se X → okEs T se es xs = true → PA X xs (evsT C W c es)
  | .nil, W, se, X, xs, G, h => by
    rw [okEs] at h
    cases xs with
    | nil => exact pa_nilF
    | cons _ _ => cases h
  | .cons e es, W, se, X, xs, G, h => by
    cases xs with
    | nil => simp [okEs] at h
    | cons x r =>
      rw [okEs, Bool.and_eq_true, Bool.and_eq_true, Bool.not_eq_true'] at h
      exact imp_a (pa_cons (okE_ok e G h.1).v (okEs_ok es G h.2.2) (star_cons h.2.1)) fun σ H Q w => evsT_cons w
theorem okK_ok : ∀ (es : Exs) {W : WX} {se : SE} {X : Cx} {ks : List Keyword}, GX T C W c n se X → okEs T se es (ks.map (·.value)) = true → PK X ks (evsT C W c es)
  | .nil, W, se, X, ks, G, h => by
    rw [okEs] at h
    cases ks with
    | nil =>
      refine ⟨fun pos pins s σ H Q I ⟨F, ρ, hs, hl, w⟩ => pk_nil.run pos pins s σ H Q I ?_⟩
      rw [evs] at w
      exact w.ok_now hs rfl
    | cons _ _ => cases h
  | .cons e es, W, se, X, ks, G, h => by
    cases ks with
    | nil => simp [okEs] at h
    | cons k r =>
      obtain ⟨a, v, q⟩ := k
      rw [List.map_cons, okEs, Bool.and_eq_true, Bool.and_eq_true] at h
      have pk := pk_cons (nm := a) (kpos := q) (okE_ok e G h.1).v (okK_ok es G h.2.2)
      exact ⟨fun pos pins s σ H Q I w => pk.run pos pins s σ H Q I (evsT_cons w)⟩
theorem okO_ok : ∀ (o : Ox) {W : WX} {se : SE} {X : Cx} {x : Option Expr}, GX T C W c n se X → okO T se o x = true → PO X x (evoT C W c o)
  | .non, W, se, X, x, G, h => by
    rw [okO] at h
    cases x with
    | none => exact po_non
    | some _ => cases h
  | .som e, W, se, X, x, G, h => by
    cases x with
    | none => simp [okO] at h
    | some y =>
      rw [okO] at h
      exact po_som (okE_ok e G h).v
theorem okT_ok : ∀ (o : Ox) {W : WX} {se : SE} {X : Cx} {xs : List Expr}, GX T C W c n se X → okT T se o xs = true → PTs X xs (evtT C W c o)
  | .non, W, se, X, x, G, h => by
    rw [okT] at h
    cases x with
    | nil => exact pts_non
    | cons _ _ => cases h
  | .som e, W, se, X, x, G, h => by
    rcases x with _ | ⟨y, _ | ⟨_, _⟩⟩
    · simp [okT] at h
    · rw [okT] at h
      exact pts_som (okE_ok e G h).t
    · simp [okT] at h
theorem okS_ok : ∀ (s : Sr) {W : WX} {se : SE} {X : Cx} {tg x : Expr}, GX T C W c n se X → okS T se tg s x = true → PI X tg x (evwT C W c s)
  | .lis e, W, se, X, tg, x, G, h => by
    rw [okS] at h
    exact pi_lisF (okE_ok e G h).v
  | .tpl e, W, se, X, tg, x, G, h => by
    rw [okS] at h
    exact pi_tplF (okE_ok e G h).v
  | .txt e, W, se, X, tg, x, G, h => by
    rw [okS] at h
    exact pi_txtF (okE_ok e G h).v
  | .rg1 e, W, se, X, tg, x, G, h => by
    rw [okS] at h
    split at h
    · rename_i m a hm
      obtain ⟨p, q, rfl⟩ := asCall_eq hm
      simp only [Bool.and_eq_true, decide_eq_true_eq, Bool.not_eq_true'] at h
      obtain ⟨h1, h2, h3, h4⟩ := h
      subst h1
      exact pi_rg1F (gloB_ok (by rw [G.sc]; exact h2)) (G.bl _ (by decide)) (star_cons h3) (imp_a (pa_cons (okE_ok e G h4).v pa_nilF (star_cons h3)) fun σ H Q w => evsT_cons w)
    · cases h
  | .rg2 e f, W, se, X, tg, x, G, h => by
    rw [okS] at h
    split at h
    · rename_i m a b hm
      obtain ⟨p, q, rfl⟩ := asCall_eq hm
      simp only [Bool.and_eq_true, decide_eq_true_eq, Bool.not_eq_true'] at h
      obtain ⟨h1, h2, h3, h4, h5, h6⟩ := h
      subst h1
      have pb := imp_a (pa_cons (okE_ok f G h6).v (pa_nilF (C := C) (W := W) (c := c)) (star_cons h4)) fun σ H Q w => evsT_cons w
      exact pi_rg2F (gloB_ok (by rw [G.sc]; exact h2)) (G.bl _ (by decide)) (by rw [star_cons h3, star_cons h4]; rfl) (star_cons h4) (imp_a (pa_cons (okE_ok e G h5).v pb (star_cons h3)) fun σ H Q w => evsT_cons w)
    · cases h
  | .enu e, W, se, X, tg, x, G, h => by
    rw [okS] at h
    split at h
    · rename_i m a hm
      obtain ⟨p, q, rfl⟩ := asCall_eq hm
      simp only [Bool.and_eq_true, decide_eq_true_eq, Bool.not_eq_true'] at h
      obtain ⟨h1, h2, h3, h4, h5⟩ := h
      subst h1
      obtain ⟨elts, he⟩ := Option.isSome_iff_exists.mp h5
      obtain ⟨kk, tp, rfl⟩ := asTup_eq he
      exact pi_enuF (gloB_ok (by rw [G.sc]; exact h2)) (G.bl _ (by decide)) (star_cons h3) (imp_a (pa_cons (okE_ok e G h4).v pa_nilF (star_cons h3)) fun σ H Q w => evsT_cons w)
    · cases h
  | .zip true e f, W, se, X, tg, x, G, h => by
    rw [okS] at h
    split at h
    · rename_i m a b k hm
      obtain ⟨p, q, rfl⟩ := asCallK_eq hm
      simp only [Bool.and_eq_true, decide_eq_true_eq, Bool.not_eq_true'] at h
      obtain ⟨k1, k2, h1, h2, h3, h4, h5, h6, h7⟩ := h
      subst h1
      obtain ⟨elts, he⟩ := Option.isSome_iff_exists.mp h7
      obtain ⟨kk, tp, rfl⟩ := asTup_eq he
      obtain ⟨kj, kq, k3⟩ := asConst_eq k2
      obtain ⟨ka, kv, kp⟩ := k
      simp only at k1 k3
      subst k1 k3
      have pb := imp_a (pa_cons (okE_ok f G h6).v (pa_nilF (C := C) (W := W) (c := c)) (star_cons h4)) fun σ H Q w => evsT_cons w
      exact pi_zipSF (gloB_ok (by rw [G.sc]; exact h2)) (G.bl _ (by decide)) (imp_e pe_bl fun σ H Q w => w) (star_cons h3) (any_one h4) (imp_a (pa_cons (okE_ok e G h5).v pb (star_cons h3)) fun σ H Q w => evsT_cons w)
    · cases h
  | .zip false e f, W, se, X, tg, x, G, h => by
    rw [okS] at h
    split at h
    · rename_i m a b hm
      obtain ⟨p, q, rfl⟩ := asCall_eq hm
      simp only [Bool.and_eq_true, decide_eq_true_eq, Bool.not_eq_true'] at h
      obtain ⟨h1, h2, h3, h4, h5, h6, h7⟩ := h
      subst h1
      obtain ⟨elts, he⟩ := Option.isSome_iff_exists.mp h7
      obtain ⟨kk, tp, rfl⟩ := asTup_eq he
      have pb := imp_a (pa_cons (okE_ok f G h6).v (pa_nilF (C := C) (W := W) (c := c)) (star_cons h4)) fun σ H Q w => evsT_cons w
      exact pi_zipF (gloB_ok (by rw [G.sc]; exact h2)) (G.bl _ (by decide)) (star_cons h3) (any_one h4) (imp_a (pa_cons (okE_ok e G h5).v pb (star_cons h3)) fun σ H Q w => evsT_cons w)
    · cases h
end
end
end MP
end
section
set_option maxRecDepth 100000
set_option maxHeartbeats 4000000
/-! MPSnd20: what a statement is to come through; assignments. -/
namespace MP
open PySem L2
variable [Glo]
/-- behind a statement -/
def AftE (C : Nat → Addr) (W : WX) (F : Fr) (H : Hp) (r : E) (D : Ends) : Prop := match r with
  | .nx ρ st => ∀ F' H' σ', F'.st = st → Ext F H F' H' → Sto F' H' → Slo F' H' ρ σ' → D.nx σ' H'
  | .bk ρ st => ∀ F' H' σ', F'.st = st → Ext F H F' H' → Sto F' H' → Slo F' H' ρ σ' → D.bk σ' H'
  | .ct ρ st => ∀ F' H' σ', F'.st = st → Ext F H F' H' → Sto F' H' → Slo F' H' ρ σ' → D.ct σ' H'
  | .rt d st => ∀ F' H' v, F'.st = st → Ext F H F' H' → Sto F' H' → Rep F' H' d v → D.rt v H'
  | .exc k d ρ st => ∀ F' H' σ' dx v, F'.st = st → Ext F H F' H' → Sto F' H' → Slo F' H' ρ σ' → H' dx = some (.xd [(("value" : Str), v)]) → ¬ F'.un dx → H dx = none → Rep F' H' d v → W (.ref (C k)) (some dx) σ' H'
  | .bad => False
section
variable {C : Nat → Addr} {W : WX} {F F₁ : Fr} {H H₁ : Hp} {D : Ends}
theorem AftE.later {r : E} (x : Ext F H F₁ H₁) (h : AftE C W F H r D) : AftE C W F₁ H₁ r D := by
  cases r with
  | nx ρ st => exact fun F' H' σ' e y s q => h F' H' σ' e (x.trans y) s q
  | bk ρ st => exact fun F' H' σ' e y s q => h F' H' σ' e (x.trans y) s q
  | ct ρ st => exact fun F' H' σ' e y s q => h F' H' σ' e (x.trans y) s q
  | rt d st => exact fun F' H' v e y s q => h F' H' v e (x.trans y) s q
  | exc k d ρ st => exact fun F' H' σ' dx v e y s l hd hu hn hr => h F' H' σ' dx v e (x.trans y) s l hd hu (x.there dx hn) hr
  | bad => exact h
theorem AftE.thn {α β : Type} {Rel : Fr → Hp → α → β → Prop} {r : R α} {f : α → Store → E} {ρ : Sl} {σ : L2.St} (hl : Slo F H ρ σ) (h : AftE C W F H (r.thn ρ f) D) :
    Aft Rel C (fun cl d H' => W cl d σ H') F H r (fun F1 H1 a _ => AftE C W F1 H1 (f a F1.st) D) := by
  cases r with
  | ok a st =>
    intro F' H' b e x s q
    subst e
    exact AftE.later x h
  | exc k d st => exact fun F' H' dx v e x s hd hu hn hr => h F' H' σ dx v e x s (hl.ext x) hd hu hn hr
  | bad => exact h
theorem AftE.nx_now {ρ : Sl} {σ : L2.St} (h : AftE C W F H (.nx ρ F.st) D) (s : Sto F H) (l : Slo F H ρ σ) : D.nx σ H := h F H σ rfl (Ext.refl F H) s l
theorem AftE.set {i : Nat} {d : MP.D} {v : V} {ρ : Sl} {σ : L2.St} (h : AftE C W F H (ofS (set1 i d ρ) F.st) D) (s : Sto F H) (l : Slo F H ρ σ) (r : Rep F H d v) : D.nx (σ.set i (some v)) H := by
  unfold set1 at h
  split at h
  · exact h.nx_now s (l.set i r)
  · exact h.elim
end
/-- a statement's reading -/
def stT (C : Nat → Addr) (W : WX) (c : Cxt) (s : Sm) : TS := fun D σ H => ∃ F ρ, Sto F H ∧ Slo F H ρ σ ∧ AftE C W F H (ex c s ρ F.st) D
def stsT (C : Nat → Addr) (W : WX) (c : Cxt) (s : Sms) : TS := fun D σ H => ∃ F ρ, Sto F H ∧ Slo F H ρ σ ∧ AftE C W F H (exs c s ρ F.st) D
/-- a class of the module, called with a value, makes an exception that holds it -/
def MkX (X : Cx) (k : Nat) (x : Str) : Prop := ∀ {y : Expr} {ty : TE} {p pos : Pos}, PE X y ty → isStar y = false → PMk X (.Call (.Name x p) [y] [] pos) (fun σ H Q => ty σ H fun v H1 => ∀ dx, H1 dx = none → Q (.ref (Glo.cl k)) (some dx) (upd H1 dx (.xd [(("value" : Str), v)])))
/-- a body's context -/
structure GS (T : Tab) (C : Nat → Addr) (W : WX) (c : Cxt) (n : Nat) (se : SE) (X : Cx) : Prop extends GX T C W c n se X where
  tk : Takes X W
  own : PassesOwn (model X.prog X.w) X.A X.env X.xe
  stk : X.stack = X.env :: X.outer
  frm : X.env.frame = some X.env.locals
  kd : se.sc.kind = .function
  mkx : ∀ k x, T.exc[k]? = some x → gloB se.sc x = true → okNm x = true → MkX X k x
theorem imp_s {X : Cx} {x : Stmt} {t t' : TS} (h : PS X x t) (q : ∀ D σ H, t' D σ H → t D σ H) : PS X x t' := ⟨fun pins s σ H D I w => h.run pins s σ H D I (q D σ H w)⟩
theorem imp_ss {X : Cx} {x : List Stmt} {t t' : TS} (h : PSs X x t) (q : ∀ D σ H, t' D σ H → t D σ H) : PSs X x t' := ⟨fun pins s σ H D I w => h.run pins s σ H D I (q D σ H w)⟩
section
variable {T : Tab} {C : Nat → Addr} {W : WX} {c : Cxt} {n : Nat} {se : SE} {X : Cx}
/-! ### name = e -/
def isComp : Expr → Bool
  | .ListComp _ _ _ _ => true
  | .SetComp _ _ _ _ => true
  | .DictComp _ _ _ _ _ => true
  | _ => false
/-- no swapping of the block's names with the target -/
def swB (se : SE) (x : Str) (p : Pos) : Expr → Bool
  | .ListComp e g sc q => !(decide (se.sc.names.lookup x = some .local)) || (!(p.line == q.line) || (sc.names.any fun (n, k) => n == x && (k == .local || k == .cell)))
  | e => !isComp e
theorem swB_ok {x : Str} {p : Pos} {e : Expr} {l : Nat} {env : Env} (hs : env.scope = se.sc) (h : swB se x p e = true) : swapsWith e (some (.Name x p)) l env = pure false := by
  cases e <;> first | rfl | (cases h; done) | skip
  rename_i el g sc q
  unfold swB at h
  unfold swapsWith
  show (pure (env.blockKind == .function && env.kindOf x == some .local && p.line == q.line && !(sc.names.any fun (n, k) => n == x && (k == .local || k == .cell))) : Sem Bool) = pure false
  have e1 : env.kindOf x = se.sc.names.lookup x := by rw [← hs]; rfl
  rw [e1]
  congr 1
  rw [Bool.or_eq_true, Bool.or_eq_true, Bool.not_eq_true', Bool.not_eq_true', decide_eq_false_iff_not] at h
  rcases h with h | h | h
  · have : (se.sc.names.lookup x == some NameKind.local) = false := beq_eq_false_iff_ne.mpr h
    rw [this]
    simp
  · rw [h]
    simp
  · rw [h]
    simp
theorem comp_none {e : Expr} {l : Nat} {env : Env} {t : Option Expr} (h : isComp e = false) : swapsWith e t l env = pure false := by
  cases e <;> first | rfl | cases h
theorem sole_comp {e tg : Expr} {l : Nat} {env : Env} (h : isComp e = false) : swapsWithSole [tg] e l env = pure false := comp_none h
theorem set_of {i : Nat} {e : Ex} {D : Ends} {σ : L2.St} {H : Hp} (h : stT C W c (.set i e) D σ H) : tAsg (evT C W c e) (gName i) D σ H := by
  obtain ⟨F, ρ, hs, hl, w⟩ := h
  rw [ex] at w
  exact ⟨F, ρ, hs, hl, (AftE.thn hl w).mono fun F1 H1 d v x1 s1 r1 q1 => AftE.set q1 s1 (hl.ext x1) r1⟩
theorem ps_setF (G : GS T C W c n se X) {i : Nat} {x : Str} {e : Ex} {y : Expr} {p pos : Pos} (hi : se.N[i]? = some x) (hx : locB se x = true) (hw : swB se x p y = true) (he : PE X y (evT C W c e)) : PS X (.Assign [.Name x p] y pos) (stT C W c (.set i e)) := by
  obtain ⟨l1, l2⟩ := locB_ok G.sx hx
  exact imp_s (ps_set (i := i) (by rw [G.N]; exact G.nd) (by rw [G.N]; exact hi) l1 he (swB_ok G.sc hw) l2) fun D σ H w => set_of w
/-- name = [..] on one line -/
def lcB (sc sc' : Scope) (x : Str) (p q : Pos) : Bool := decide (sc.names.lookup x = some .local) && ((p.line == q.line) && !(sc'.names.any fun (n, k) => n == x && (k == .local || k == .cell)))
theorem ps_setLcF (G : GS T C W c n se X) {j : Nat} {x : Str} {e : Ex} {y : Ex} {tg : List Nat} {tp : Bool} {s : Sr} {i : Ox} {own : List Nat} {y' tg' it : Expr} {ifs : List Expr} {sc : Scope} {p q pos : Pos} (hj : se.N[j]? = some x) (hsw : lcB se.sc sc x p q = true)
    (h : okE T se (.lc y tg tp s i own) (.ListComp y' [⟨tg', it, ifs, 0⟩] sc q) = true) (he : ∀ σ H Q, evT C W c e σ H Q → tLc (evwT C W c s) (gF tg tp) (evtT C WF c i) (evT C WF c y) own σ H Q) :
    PS X (.Assign [.Name x p] (.ListComp y' [⟨tg', it, ifs, 0⟩] sc q) pos) (stT C W c (.set j e)) := by
  unfold lcB at hsw
  simp only [Bool.and_eq_true, decide_eq_true_eq, Bool.not_eq_true'] at hsw
  obtain ⟨k1, k2, k3⟩ := hsw
  simp only [okE, asLc, Bool.and_eq_true, decide_eq_true_eq] at h
  obtain ⟨h0, h1, h2, h3, h4, h5, h6, h7⟩ := h
  have hi := okS_ok s G.toGX h1
  have bk := fun s H B cl fp => G.toGX.blk s H sc B cl fp
  have sw := sw_true (elt := y') (gs := [⟨tg', it, ifs, 0⟩]) (pos := q) (l := pos.line) (env := X.env) (by rw [G.sc]; exact G.kd) (by rw [G.sc]; exact k1) k2 k3
  have ps := ps_setLc (spos := pos) G.calm (by rw [G.N]; exact G.nd) (by rw [G.N]; exact hj) (by rw [G.sc]; exact k1) sw hi (own := ownS se.N own) (by rw [G.N, G.sc]; exact blkOk_by h5) (fun s H B cl fp => pg_F (bk s H B cl fp).sx h4) (fun s H B cl fp => okT_ok i (bk s H B cl fp) h2) (fun s H B cl fp => (okE_ok y (bk s H B cl fp) h3).v) (notSet_ok h0)
  rw [h6] at ps
  refine imp_s ps fun D σ H w => ?_
  have w' := set_of w
  exact he σ H _ w'
/-! ### names = e -/
def notTup : Expr → Bool
  | .Tuple _ _ _ => false
  | _ => true
theorem stores_none {ts : List Expr} {k : Nat} {p : Pos} {e : Expr} {env : Env} (h : notTup e = true) : swappedStores [.Tuple ts k p] e env = pure none := by
  cases e <;> first | rfl | cases h
theorem fm_lt {α β : Type} {f : α → Option β} : ∀ {l : List α}, (∃ x ∈ l, f x = none) → (l.filterMap f).length < l.length
  | [], ⟨_, h, _⟩ => nomatch h
  | y :: l, ⟨x, h, e⟩ => by
    rw [List.filterMap_cons]
    rcases List.mem_cons.mp h with rfl | h
    · rw [e]
      exact Nat.lt_succ_of_le (List.length_filterMap_le f l)
    · have ih := fm_lt (l := l) ⟨x, h, e⟩
      split
      · exact Nat.lt_succ_of_lt ih
      · exact Nat.succ_lt_succ ih
/-- a name among them that stands in a cell -/
def cellT (se : SE) (ts : List Expr) : Bool := ts.any fun t => match asName t with
  | some x => decide (se.sc.names.lookup x = some .cell)
  | none => false
def stoB (se : SE) (ts : List Expr) (e : Expr) : Bool := notTup e || cellT se ts
theorem stores_B {ts : List Expr} {k : Nat} {p : Pos} {e : Expr} {env : Env} (hs : env.scope = se.sc) (h : stoB se ts e = true) : swappedStores [.Tuple ts k p] e env = pure none := by
  cases e with
  | Tuple vs k2 p2 =>
    have h : cellT se ts = true := by simpa [stoB, notTup] using h
    obtain ⟨t, ht, hx⟩ := List.any_eq_true.mp h
    split at hx
    · rename_i x hm
      obtain ⟨q, rfl⟩ := asName_eq hm
      have hx := of_decide_eq_true hx
      have hk : env.kindOf x = some .cell := by show env.scope.names.lookup x = _; rw [hs]; exact hx
      unfold swappedStores
      dsimp only
      split
      · rfl
      · split
        · rfl
        · refine if_pos ?_
          rw [Bool.or_eq_true]
          left
          rw [bne_iff_ne]
          refine Nat.ne_of_lt (fm_lt ⟨_, ht, ?_⟩)
          simp [hk]
    · cases hx
  | _ => rfl
theorem unp_of {is : List Nat} {e : Ex} {D : Ends} {σ : L2.St} {H : Hp} (h : stT C W c (.unp is e) D σ H) : tAsg (evT C W c e) (gF is true) D σ H := by
  obtain ⟨F, ρ, hs, hl, w⟩ := h
  rw [ex] at w
  refine ⟨F, ρ, hs, hl, (AftE.thn hl w).mono fun F1 H1 d v x1 s1 r1 q1 => ?_⟩
  cases e1 : asgT is true d ρ with
  | none => rw [e1] at q1; exact q1.elim
  | some ρ1 =>
    rw [e1] at q1
    exact ⟨F1, ρ, d, ρ1, s1, hl.ext x1, r1, e1, fun σ1 l1 _ => q1.nx_now s1 l1⟩
theorem ps_unpF (G : GS T C W c n se X) {is : List Nat} {ts : List Expr} {k : Nat} {e : Ex} {y : Expr} {p pos : Pos} (h : okNames se is ts = true) (hc : isComp y = false) (ht : stoB se ts y = true) (he : PE X y (evT C W c e)) : PS X (.Assign [.Tuple ts k p] y pos) (stT C W c (.unp is e)) :=
  imp_s (ps_asg he (pg_F G.sx (tp := true) (by show (match asTup (.Tuple ts k p) with | some xs => okNames se is xs | none => false) = true; exact h)) (sole_comp hc) (stores_B G.sc ht)) fun D σ H w => unp_of w
/-- a, b = x, y -/
def idOf : Expr → Option (Str × Nat)
  | .Name x p => some (x, p.line)
  | _ => none
def parB (se : SE) (ts vs : List Expr) : Bool := (ts.length == 2 || ts.length == 3) && ((vs.length == ts.length) && ((vs.all fun v => !isStar v) && (!(vs.all (foldedForSure 8)) && !(vs.all (constantsAlone 8)))))
theorem stores2 {x y : Str} {px py : Pos} {a b : Expr} {kt k2 : Nat} {pt pt2 : Pos} {env : Env} (hs : env.scope = se.sc) (hk : se.sc.kind = .function) (hx : se.sc.names.lookup x = some .local) (hy : se.sc.names.lookup y = some .local) (hxy : x ≠ y) (hl : py.line = px.line)
    (sa : isStar a = false) (sb : isStar b = false) (f1 : ([a, b].all (foldedForSure 8)) = false) (f2 : ([a, b].all (constantsAlone 8)) = false) :
    swappedStores [.Tuple [.Name x px, .Name y py] kt pt] (.Tuple [a, b] k2 pt2) env = pure (some [x, y]) := by
  have hb : env.blockKind = .function := by unfold Env.blockKind; rw [hs, hk]; rfl
  have ex : env.kindOf x = some .local := by show env.scope.names.lookup x = _; rw [hs]; exact hx
  have ey : env.kindOf y = some .local := by show env.scope.names.lookup y = _; rw [hs]; exact hy
  have hyx : (y == x) = false := beq_eq_false_iff_ne.mpr (Ne.symm hxy)
  unfold swappedStores
  simp only [hb, f1, f2]
  simp [ex, ey, hl, List.eraseDups, List.eraseDupsBy, List.eraseDupsBy.loop, Expr.pos, hyx]
  intro h
  exfalso
  rcases h with h | h
  · cases a <;> first | (cases h; done) | cases sa
  · cases b <;> first | (cases h; done) | cases sb
theorem stores3 {x y z : Str} {px py pz : Pos} {a b d : Expr} {kt k2 : Nat} {pt pt2 : Pos} {env : Env} (hs : env.scope = se.sc) (hk : se.sc.kind = .function) (hx : se.sc.names.lookup x = some .local) (hy : se.sc.names.lookup y = some .local) (hz : se.sc.names.lookup z = some .local) (hxy : x ≠ y) (hxz : x ≠ z) (hyz : y ≠ z) (hl : py.line = px.line) (hl2 : pz.line = px.line)
    (sa : isStar a = false) (sb : isStar b = false) (sd : isStar d = false) (f1 : ([a, b, d].all (foldedForSure 8)) = false) (f2 : ([a, b, d].all (constantsAlone 8)) = false) :
    swappedStores [.Tuple [.Name x px, .Name y py, .Name z pz] kt pt] (.Tuple [a, b, d] k2 pt2) env = pure (some [x, y, z]) := by
  have hb : env.blockKind = .function := by unfold Env.blockKind; rw [hs, hk]; rfl
  have ex : env.kindOf x = some .local := by show env.scope.names.lookup x = _; rw [hs]; exact hx
  have ey : env.kindOf y = some .local := by show env.scope.names.lookup y = _; rw [hs]; exact hy
  have ez : env.kindOf z = some .local := by show env.scope.names.lookup z = _; rw [hs]; exact hz
  have hyx : (y == x) = false := beq_eq_false_iff_ne.mpr (Ne.symm hxy)
  have hzx : (z == x) = false := beq_eq_false_iff_ne.mpr (Ne.symm hxz)
  have hzy : (z == y) = false := beq_eq_false_iff_ne.mpr (Ne.symm hyz)
  unfold swappedStores
  simp only [hb, f1, f2]
  simp [ex, ey, ez, hl, hl2, List.eraseDups, List.eraseDupsBy, List.eraseDupsBy.loop, Expr.pos, hyx, hzx, hzy]
  intro h
  exfalso
  rcases h with h | h | h
  · cases a <;> first | (cases h; done) | cases sa
  · cases b <;> first | (cases h; done) | cases sb
  · cases d <;> first | (cases h; done) | cases sd
/-- names that stand in slots, plain locals on one line, none twice -/
def parNm (se : SE) (l : Nat) (i : Nat) (x : Expr) : Bool := match idOf x with
  | some (n, m) => decide (se.N[i]? = some n) && (decide (se.sc.names.lookup n = some .local) && decide (m = l))
  | none => false
def parL : List Expr → Nat
  | e :: _ => (match idOf e with
    | some (_, m) => m
    | none => 0)
  | [] => 0
def okPar (se : SE) (is : List Nat) (ts vs : List Expr) : Bool := match is, ts, vs with
  | [i, j], [x, y], [a, b] => (parNm se (parL [x]) i x && (parNm se (parL [x]) j y && (decide (i ≠ j) && (!isStar a && (!isStar b && (!([a, b].all (foldedForSure 8)) && !([a, b].all (constantsAlone 8))))))))
  | [i, j, k], [x, y, z], [a, b, d] => (parNm se (parL [x]) i x && (parNm se (parL [x]) j y && (parNm se (parL [x]) k z && (decide (i ≠ j) && (decide (i ≠ k) && (decide (j ≠ k) && (!isStar a && (!isStar b && (!isStar d && (!([a, b, d].all (foldedForSure 8)) && !([a, b, d].all (constantsAlone 8))))))))))))
  | _, _, _ => false
theorem parNm_ok {l i : Nat} {x : Expr} (h : parNm se l i x = true) : ∃ n p, x = .Name n p ∧ se.N[i]? = some n ∧ se.sc.names.lookup n = some .local ∧ p.line = l := by
  unfold parNm at h
  split at h
  · rename_i n m e
    cases x <;> first | (cases e; done) | skip
    cases e
    simp only [Bool.and_eq_true, decide_eq_true_eq] at h
    exact ⟨_, _, rfl, h.1, h.2.1, h.2.2⟩
  · cases h
theorem par_of {is : List Nat} {es : Exs} {D : Ends} {σ : L2.St} {H : Hp} (h : stT C W c (.par is es) D σ H) : evsT C W c es σ H fun vs H1 => vs.length = is.length ∧ D.nx (setAll σ is vs) H1 := by
  obtain ⟨F, ρ, hs, hl, w⟩ := h
  rw [ex] at w
  refine ⟨F, ρ, hs, hl, (AftE.thn hl w).mono fun F1 H1 ds vs x1 s1 r1 q1 => ?_⟩
  cases e : MP.asg1 is ds ρ with
  | none => rw [e] at q1; exact q1.elim
  | some ρ1 =>
    rw [e] at q1
    obtain ⟨k1, k2⟩ := (hl.ext x1).asg1 r1 e
    exact ⟨k1, q1.nx_now s1 k2⟩
theorem ps_parF (G : GS T C W c n se X) {is : List Nat} {ts vs : List Expr} {es : Exs} {kt k2 : Nat} {pt pt2 pos : Pos} (h : okPar se is ts vs = true) (ha : PA X vs (evsT C W c es)) : PS X (.Assign [.Tuple ts kt pt] (.Tuple vs k2 pt2) pos) (stT C W c (.par is es)) := by
  have inj : ∀ {i j : Nat} {x y : Str}, se.N[i]? = some x → se.N[j]? = some y → i ≠ j → x ≠ y := fun {i j x y} h1 h2 hn e => by
    subst e
    exact hn (nodup_ix G.nd h1 h2)
  have lk : ∀ {x : Str}, se.sc.names.lookup x = some .local → X.env.scope.names.lookup x = some .local := fun {x} h => by rw [G.sc]; exact h
  have hN : ∀ {i : Nat} {x : Str}, se.N[i]? = some x → X.N[i]? = some x := fun {i x} h => by rw [G.N]; exact h
  unfold okPar at h
  split at h
  · rename_i i j x y a b
    simp only [Bool.and_eq_true, Bool.not_eq_true', decide_eq_true_eq] at h
    obtain ⟨h1, h2, h3, h4, h5, h6, h7⟩ := h
    obtain ⟨xn, px, rfl, x1, x2, x3⟩ := parNm_ok h1
    obtain ⟨yn, py, rfl, y1, y2, y3⟩ := parNm_ok h2
    have y3 : py.line = px.line := y3
    refine imp_s (ps_par G.calm (by rw [G.N]; exact G.nd) (hN x1) (hN y1) h3 (lk x2) (lk y2) ha (stores2 G.sc G.kd x2 y2 (inj x1 y1 h3) y3 h4 h5 h6 h7)) fun D σ H w => ?_
    obtain ⟨F, ρ, hs, hl, w⟩ := par_of w
    refine ⟨F, ρ, hs, hl, w.mono fun F1 H1 ds vs _ _ _ ⟨q1, q2⟩ => ?_⟩
    rcases vs with _ | ⟨v, _ | ⟨w', _ | ⟨_, _⟩⟩⟩ <;> first | (cases q1; done) | skip
    exact ⟨v, w', rfl, q2⟩
  · rename_i i j k x y z a b d
    simp only [Bool.and_eq_true, Bool.not_eq_true', decide_eq_true_eq] at h
    obtain ⟨h1, h2, h2', h3, h3', h3'', h4, h5, h5', h6, h7⟩ := h
    obtain ⟨xn, px, rfl, x1, x2, x3⟩ := parNm_ok h1
    obtain ⟨yn, py, rfl, y1, y2, y3⟩ := parNm_ok h2
    obtain ⟨zn, pz, rfl, z1, z2, z3⟩ := parNm_ok h2'
    have y3 : py.line = px.line := y3
    have z3 : pz.line = px.line := z3
    refine imp_s (ps_par3 G.calm (by rw [G.N]; exact G.nd) (hN x1) (hN y1) (hN z1) h3 h3' h3'' (lk x2) (lk y2) (lk z2) ha (stores3 G.sc G.kd x2 y2 z2 (inj x1 y1 h3) (inj x1 z1 h3') (inj y1 z1 h3'') y3 z3 h4 h5 h5' h6 h7)) fun D σ H w => ?_
    obtain ⟨F, ρ, hs, hl, w⟩ := par_of w
    refine ⟨F, ρ, hs, hl, w.mono fun F1 H1 ds vs _ _ _ ⟨q1, q2⟩ => ?_⟩
    rcases vs with _ | ⟨v, _ | ⟨w', _ | ⟨u, _ | ⟨_, _⟩⟩⟩⟩ <;> first | (cases q1; done) | skip
    exact ⟨v, w', u, rfl, q2⟩
  · cases h
/-! ### a[i] = e, a[i] op= e, name op= e -/
theorem RepK.len {F : Fr} {H : Hp} : ∀ {kvs : List (Key × D)} {us : List (Key × V)}, RepK F H kvs us → kvs.length = us.length
  | [], us, h => by
    have h : us = [] := h
    subst h
    rfl
  | p :: ps, us, ⟨v, r, e, _, h⟩ => by
    subst e
    exact congrArg Nat.succ h.len
theorem RepK.anyK {F : Fr} {H : Hp} {k : Key} : ∀ {kvs : List (Key × D)} {us : List (Key × V)}, RepK F H kvs us → (us.any fun kv => decide (kv.1 = k)) = dHas kvs k
  | [], us, h => by
    have h : us = [] := h
    subst h
    rfl
  | p :: ps, us, ⟨v, r, e, _, h⟩ => by
    subst e
    have ih := h.anyK (k := k)
    unfold dHas at ih ⊢
    rw [List.any_cons, List.any_cons, ih]
theorem RepK.rep {F : Fr} {H : Hp} {k : Key} {d : D} {v : V} (rv : Rep F H d v) : ∀ {kvs : List (Key × D)} {us : List (Key × V)}, RepK F H kvs us → RepK F H (kvs.map fun kv => if kv.1 = k then (kv.1, d) else kv) (us.map fun kv => if kv.1 = k then (kv.1, v) else kv)
  | [], us, h => by
    have h : us = [] := h
    subst h
    rfl
  | p :: ps, us, ⟨u, r, e, h1, h⟩ => by
    subst e
    rw [List.map_cons, List.map_cons]
    by_cases q : p.1 = k
    · exact ⟨v, _, by simp [q], by simpa [q] using rv, h.rep rv⟩
    · exact ⟨u, _, by simp [q], by simpa [q] using h1, h.rep rv⟩
theorem RepK.snoc {F : Fr} {H : Hp} {k : Key} {d : D} {v : V} (rv : Rep F H d v) : ∀ {kvs : List (Key × D)} {us : List (Key × V)}, RepK F H kvs us → RepK F H (kvs ++ [(k, d)]) (us ++ [(k, v)])
  | [], us, h => by
    have h : us = [] := h
    subst h
    exact ⟨v, [], rfl, rv, rfl⟩
  | p :: ps, us, ⟨u, r, e, h1, h⟩ => by
    subst e
    exact ⟨u, _, rfl, h1, h.snoc rv⟩
theorem RepK.put {F : Fr} {H : Hp} {k : Key} {d : D} {v : V} {kvs : List (Key × D)} {us : List (Key × V)} (h : RepK F H kvs us) (rv : Rep F H d v) : RepK F H (dPut kvs k d) (putK us k v) := by
  unfold dPut putK
  rw [h.anyK]
  split
  · exact h.rep rv
  · exact h.snoc rv
theorem sti_write {F : Fr} {H : Hp} {x y z : D} {st' : Store} (s : Sto F H) (h : stiD F.st x y z = some st') {vx vy vz : V} (rx : Rep F H x vx) (ry : Rep F H y vy) (rz : Rep F H z vz) :
    (∃ F' vs p k j, vx = .ref p ∧ vy = .int k ∧ H p = some (.lst vs) ∧ ixN vs.length k = some j ∧ F'.st = st' ∧ Ext F H F' (upd H p (.lst (vs.set j vz))) ∧ Sto F' (upd H p (.lst (vs.set j vz)))) ∨
    ∃ F' us p k, vx = .ref p ∧ vy = kV k ∧ H p = some (.dK us) ∧ us.length < sizeLine ∧ F'.st = st' ∧ Ext F H F' (upd H p (.dK (putK us k vz))) ∧ Sto F' (upd H p (.dK (putK us k vz))) := by
  unfold stiD at h
  split at h
  · rename_i k j
    split at h
    · rename_i ds hk
      cases hj : L2.ixN ds.length j with
      | none => rw [hj] at h; cases h
      | some m =>
        rw [hj] at h
        cases h
        obtain ⟨vs, ev, ha, rv⟩ := cel_at s rx hk
        obtain ⟨x1, s1⟩ := cell_write s hk (fun z => nomatch z) (rv.set m rz)
        exact .inl ⟨_, vs, F.al k, j, m, ev, ry, ha, by rw [← rv.length]; exact hj, rfl, x1, s1⟩
    · cases h
  · rename_i k z0
    split at h
    · rename_i kvs hk
      split at h
      · rename_i hl
        cases h
        obtain ⟨e, _⟩ := rx
        obtain ⟨us, ha, rs⟩ := s.ce k _ hk
        obtain ⟨x1, s1⟩ := cell_writeD s hk (fun z => nomatch z) (rs.put (k := .inr z0) rz)
        rw [line_eq, rs.len] at hl
        exact .inr ⟨_, us, F.al k, .inr z0, e, ry, ha, hl, rfl, x1, s1⟩
      · cases h
    · cases h
  · cases h
theorem sti_writeI {F : Fr} {H : Hp} {c : Nat} {i : Int} {z : D} {st' : Store} (s : Sto F H) (h : stiD F.st (.cel c) (.int i) z = some st') {vx vy vz : V} (rx : Rep F H (.cel c) vx) (ry : Rep F H (.int i) vy) (rz : Rep F H z vz) :
    ∃ F' vs p k j, vx = .ref p ∧ vy = .int k ∧ H p = some (.lst vs) ∧ ixN vs.length k = some j ∧ F'.st = st' ∧ Ext F H F' (upd H p (.lst (vs.set j vz))) ∧ Sto F' (upd H p (.lst (vs.set j vz))) := by
  unfold stiD at h
  simp only at h
  split at h
  · rename_i ds hk
    cases hj : L2.ixN ds.length i with
    | none => rw [hj] at h; cases h
    | some m =>
      rw [hj] at h
      cases h
      obtain ⟨vs, ev, ha, rv⟩ := cel_at s rx hk
      obtain ⟨x1, s1⟩ := cell_write s hk (fun z => nomatch z) (rv.set m rz)
      exact ⟨_, vs, F.al c, i, m, ev, ry, ha, by rw [← rv.length]; exact hj, rfl, x1, s1⟩
  · cases h
/-- a list or a dict -/
def rSetB : TSet := fun o i v H Q => rSetL o i v H Q ∨ rSetD o i v H Q
theorem set_both {X : Cx} (hu : X.A.units + 1 < cLine) : PSet X rSetB := by
  intro pins s σ H o i v ov iv u Q I ro ri rv h
  rcases h with h | h
  · exact set_list pins s σ H o i v ov iv u Q I ro ri rv h
  · exact set_dict hu pins s σ H o i v ov iv u Q I ro ri rv h
theorem subst_stores {a i e : Expr} {p : Pos} {env : Env} : swappedStores [.Subscript a i p] e env = pure none := by
  cases e <;> rfl
theorem ps_stiF (G : GS T C W c n se X) {a i e : Ex} {a' i' e' : Expr} {p pos : Pos} (hi' : isSlice i' = false) (hc : isComp e' = false) (ha : PE X a' (evT C W c a)) (hi : PE X i' (evT C W c i)) (he : PE X e' (evT C W c e)) : PS X (.Assign [.Subscript a' i' p] e' pos) (stT C W c (.sti a i e)) := by
  refine imp_s (ps_asg he (pg_sub ha hi (set_both (Nat.lt_of_le_of_lt (by omega) (room64 G.room))) (by intros; cases i' <;> first | rfl | cases hi')) (sole_comp hc) subst_stores) fun D σ H ⟨F, ρ, hs, hl, w⟩ => ?_
  rw [ex] at w
  refine ⟨F, ρ, hs, hl, (AftE.thn hl w).mono fun F1 H1 d v x1 s1 r1 q1 => ?_⟩
  refine ⟨F1, ρ, s1, hl.ext x1, (AftE.thn (hl.ext x1) q1).mono fun F2 H2 xo vo x2 s2 r2 q2 => ?_⟩
  refine ⟨F2, ρ, s2, (hl.ext x1).ext x2, (AftE.thn ((hl.ext x1).ext x2) q2).mono fun F3 H3 xi vi x3 s3 r3 q3 => ?_⟩
  cases e1 : stiD F3.st xo xi d with
  | none => rw [e1] at q3; exact q3.elim
  | some st' =>
    rw [e1] at q3
    rcases sti_write s3 e1 (r2.ext x3) r3 ((r1.ext x2).ext x3) with ⟨F', vs, p, k, j, h1, h2, h3, h4, h5, h6, h7⟩ | ⟨F', us, p, k, h1, h2, h3, h4, h5, h6, h7⟩
    · exact .inl ⟨p, vs, k, j, h1, h2, h3, h4, q3 F' _ σ h5 h6 h7 ((((hl.ext x1).ext x2).ext x3).ext h6)⟩
    · subst h2
      exact .inr ⟨p, _, h1, DPut.k h3 h4, q3 F' _ σ h5 h6 h7 ((((hl.ext x1).ext x2).ext x3).ext h6)⟩
def okIo : Bo → Operator → Bool
  | .add, .Add => true
  | .sub, .Sub => true
  | .mul, .Mult => true
  | .fdv, .FloorDiv => true
  | .mod, .Mod => true
  | _, _ => false
theorem ip_I {op : Bo} {o : Operator} (h : okIo op o = true) : PIp X o (rBinI op) := by
  intro pins s σ H x y v u Q I rx ry ⟨i, j, d, ex, ey, e, q⟩
  cases op <;> cases o <;> first | cases h | skip
  · cases e
    exact iop_add pins s σ H x y v u Q I rx ry ⟨i, j, ex, ey, q _ fun _ _ => rfl⟩
  · cases e
    exact iop_sub pins s σ H x y v u Q I rx ry ⟨i, j, ex, ey, q _ fun _ _ => rfl⟩
  · unfold binI at e
    simp only at e
    split at e
    · cases e
      exact iop_mul pins s σ H x y v u Q I rx ry ⟨i, j, ex, ey, okMul_ok (by assumption), q _ fun _ _ => rfl⟩
    · cases e
  · unfold binI at e
    simp only at e
    split at e
    · rename_i hc
      cases e
      simp only [Bool.and_eq_true, decide_eq_true_eq] at hc
      exact iop_fdiv pins s σ H x y v u Q I rx ry ⟨i, j, ex, ey, hc, q _ fun _ _ => rfl⟩
    · cases e
  · unfold binI at e
    simp only at e
    split at e
    · cases e
      exact iop_mod pins s σ H x y v u Q I rx ry ⟨i, j, ex, ey, by assumption, q _ fun _ _ => rfl⟩
    · cases e
theorem binI_int {op : Bo} {i j : Int} {z : D} (h : binI op i j = some z) : ∃ k, z = .int k := by
  unfold binI at h
  cases op <;> simp only at h
  · cases h; exact ⟨_, rfl⟩
  · cases h; exact ⟨_, rfl⟩
  · split at h
    · cases h; exact ⟨_, rfl⟩
    · cases h
  · split at h
    · cases h; exact ⟨_, rfl⟩
    · cases h
  · split at h
    · cases h; exact ⟨_, rfl⟩
    · cases h
  · split at h
    · cases h; exact ⟨_, rfl⟩
    · cases h
theorem ps_augF (G : GS T C W c n se X) {i : Nat} {x : Str} {op : Bo} {o : Operator} {e : Ex} {y : Expr} {p pos : Pos} (hi : se.N[i]? = some x) (hx : locB se x = true) (ho : okIo op o = true) (he : PE X y (evT C W c e)) : PS X (.AugAssign (.Name x p) o y pos) (stT C W c (.aug i op e)) := by
  obtain ⟨l1, l2⟩ := locB_ok G.sx hx
  refine imp_s (ps_aug (i := i) (by rw [G.N]; exact G.nd) (by rw [G.N]; exact hi) l1 he (ip_I ho) l2) fun D σ H ⟨F, ρ, hs, hl, w⟩ => ?_
  rw [ex] at w
  split at w
  · rename_i a hρ
    obtain ⟨v, hv, rv⟩ := hl.2 i _ hρ
    refine ⟨v, hv, F, ρ, hs, hl, (AftE.thn hl w).mono fun F1 H1 d u x1 s1 r1 q1 => ?_⟩
    cases d with
    | int b =>
      cases hz : binI op a b with
      | none => 
        have q1 : AftE C W F1 H1 (match binI op a b with
          | some z => ofS (set1 i z ρ) F1.st
          | none => .bad) D := q1
        rw [hz] at q1; exact q1.elim
      | some z =>
        have q1 : AftE C W F1 H1 (match binI op a b with
          | some z => ofS (set1 i z ρ) F1.st
          | none => .bad) D := q1
        rw [hz] at q1
        exact ⟨a, b, z, rv, r1, hz, fun v rz => AftE.set q1 s1 (hl.ext x1) (rz F1 H1)⟩
    | _ => exact q1.elim
  · exact w.elim
/-- a[i], by values, i from the left -/
theorem get_cell : PGet X (fun x y H Q => ∃ a vs i v, x = .ref a ∧ y = .int i ∧ H a = some (.lst vs) ∧ 0 ≤ i ∧ i < 2 ^ 62 ∧ vs[i.toNat]? = some v ∧ Q v H) := by
  intro pins s σ H o i ov iv Q I ro ri ⟨a, vs, k, v, e1, e2, ha, h0, h1, hv, q⟩
  subst e1 e2
  cases ro
  obtain ⟨t, rfl⟩ := ri
  obtain ⟨its, r, pl, hz⟩ := I.list (SqL.of ha)
  obtain ⟨w, hw, rw'⟩ := r.get hv
  exact wpAny_getItem_list pl.isList h0 (by omega) (by simpa using hw) ⟨v, H, I, rw', q⟩
theorem ps_agiF (G : GS T C W c n se X) {op : Bo} {o : Operator} {a i e : Ex} {a' i' e' : Expr} {p pos : Pos} (hi' : isSlice i' = false) (ho : okIo op o = true) (ha : PE X a' (evT C W c a)) (hi : PE X i' (evT C W c i)) (he : PE X e' (evT C W c e)) :
    PS X (.AugAssign (.Subscript a' i' p) o e' pos) (stT C W c (.agi a i op e)) := by
  refine imp_s (ps_augS ha hi get_cell he (ip_I ho) set_list (by intros; cases i' <;> first | rfl | cases hi')) fun D σ H ⟨F, ρ, hs, hl, w⟩ => ?_
  rw [ex] at w
  refine ⟨F, ρ, hs, hl, (AftE.thn hl w).mono fun F1 H1 xo vo x1 s1 r1 q1 => ?_⟩
  refine ⟨F1, ρ, s1, hl.ext x1, (AftE.thn (hl.ext x1) q1).mono fun F2 H2 xi vi x2 s2 r2 q2 => ?_⟩
  cases hg : MP.getD F2.st xo xi with
  | none => rw [hg] at q2; exact q2.elim
  | some d =>
    rw [hg] at q2
    cases d with
    | int m =>
      cases xo with
      | cel k =>
        cases xi with
        | int j =>
          have hg : (if 0 ≤ j then (match F2.st[k]? with
            | some (.lst ds) => if ds.length ≤ line then ds[j.toNat]? else none
            | _ => none) else none) = some (MP.D.int m) := hg
          split at hg
          · rename_i h0
            split at hg
            · rename_i ds hk
              split at hg
              · rename_i hlen
                obtain ⟨vs, ev, hat, rv⟩ := cel_at s2 (r1.ext x2) hk
                obtain ⟨u, hu, ru⟩ := rv.get hg
                have hlt := (List.getElem?_eq_some_iff.mp hg).1
                have hlen : ds.length ≤ 16777216 := hlen
                refine ⟨_, vs, j, u, ev, r2, hat, h0, by omega, hu, ?_⟩
                refine ⟨F2, ρ, s2, (hl.ext x1).ext x2, (AftE.thn ((hl.ext x1).ext x2) q2).mono fun F3 H3 xq vq x3 s3 r3 q3 => ?_⟩
                cases xq with
                | int b =>
                  have q3 : AftE C W F3 H3 (match binI op m b with
                    | some z => (match stiD F3.st (.cel k) (.int j) z with
                      | some st => .nx ρ st
                      | none => .bad)
                    | none => .bad) D := q3
                  cases hz : binI op m b with
                  | none => rw [hz] at q3; exact q3.elim
                  | some z =>
                    rw [hz] at q3
                    refine ⟨m, b, z, ru, r3, hz, fun vz rz => ?_⟩
                    have q3 : AftE C W F3 H3 (match stiD F3.st (.cel k) (.int j) z with
                      | some st => .nx ρ st
                      | none => .bad) D := q3
                    cases hst : stiD F3.st (.cel k) (.int j) z with
                    | none => rw [hst] at q3; exact q3.elim
                    | some st' =>
                      rw [hst] at q3
                      obtain ⟨F', vs', p, k', j', h1, h2, h3, h4, h5, h6, h7⟩ := sti_writeI s3 hst (((r1.ext x2).ext x3)) (r2.ext x3) (rz F3 H3)
                      exact ⟨p, vs', k', j', h1, h2, h3, h4, q3 F' _ σ h5 h6 h7 ((((hl.ext x1).ext x2).ext x3).ext h6)⟩
                | _ => exact q3.elim
              · cases hg
            · cases hg
          · cases hg
        | _ => cases hg
      | _ => cases hg
    | _ => exact q2.elim
end
end MP
end
section
set_option maxRecDepth 100000
set_option maxHeartbeats 4000000
/-! MPSnd21: control. -/
namespace MP
open PySem L2
variable [Glo]
section
variable {T : Tab} {C : Nat → Addr} {W : WX} {c : Cxt} {n : Nat} {se : SE} {X : Cx}
theorem ps_expF (G : GS T C W c n se X) {e : Ex} {y : Expr} {pos : Pos} (hc : isComp y = false) (he : PE X y (evT C W c e)) : PS X (.Expr y pos) (stT C W c (.exp e)) := by
  refine imp_s (ps_expr he (comp_none hc)) fun D σ H ⟨F, ρ, hs, hl, w⟩ => ?_
  rw [ex] at w
  exact ⟨F, ρ, hs, hl, (AftE.thn hl w).mono fun F1 H1 d v x1 s1 r1 q1 => q1.nx_now s1 (hl.ext x1)⟩
theorem ps_retF {e : Ex} {y : Expr} {pos : Pos} (he : PE X y (evT C W c e)) : PS X (.Return (some y) pos) (stT C W c (.ret e)) := by
  refine imp_s (ps_ret he) fun D σ H ⟨F, ρ, hs, hl, w⟩ => ?_
  rw [ex] at w
  exact ⟨F, ρ, hs, hl, (AftE.thn hl w).mono fun F1 H1 d v x1 s1 r1 q1 => q1 F1 H1 v rfl (Ext.refl F1 H1) s1 r1⟩
theorem ps_retN0 {pos : Pos} : PS X (.Return none pos) (stT C W c (.ret (.kn .non))) := by
  refine imp_s ps_retN fun D σ H ⟨F, ρ, hs, hl, w⟩ => ?_
  rw [ex, ev] at w
  exact w F H .non rfl (Ext.refl F H) hs rfl
theorem ps_ifF {t : Ex} {a b : Sms} {t' : Expr} {a' b' : List Stmt} {pos : Pos} (ht : PT X t' (evTT C W c t)) (ha : PSs X a' (stsT C W c a)) (hb : PSs X b' (stsT C W c b)) : PS X (.If t' a' b' pos) (stT C W c (.ife t a b)) := by
  refine imp_s (ps_if ht ha hb) fun D σ H ⟨F, ρ, hs, hl, w⟩ => ?_
  rw [ex] at w
  have w' : AftE C W F H (((ev c t ρ F.st).bind fun d st => ofO (tb d) st).thn ρ fun k st => if k = true then exs c a ρ st else exs c b ρ st) D := by
    cases hr : ev c t ρ F.st with
    | ok d st =>
      rw [hr] at w
      cases d with
      | bl k => cases k <;> exact w
      | _ => exact w.elim
    | exc k d st => rw [hr] at w; exact w
    | bad => rw [hr] at w; exact w
  refine ⟨F, ρ, hs, hl, ((AftE.thn (Rel := Eqr) hl w').eq_mono fun F1 H1 k x1 s1 q1 => ?_)⟩
  cases k with
  | true => exact ⟨F1, ρ, s1, hl.ext x1, q1⟩
  | false => exact ⟨F1, ρ, s1, hl.ext x1, q1⟩
theorem pss_nilF : PSs X [] (stsT C W c .nil) := by
  refine imp_ss pss_nil fun D σ H ⟨F, ρ, hs, hl, w⟩ => ?_
  rw [exs] at w
  exact w.nx_now hs hl
theorem pss_consF {s : Sm} {ss : Sms} {x : Stmt} {xs : List Stmt} (h1 : PS X x (stT C W c s)) (h2 : PSs X xs (stsT C W c ss)) : PSs X (x :: xs) (stsT C W c (.cons s ss)) := by
  refine imp_ss (pss_cons h1 h2) fun D σ H ⟨F, ρ, hs, hl, w⟩ => ?_
  rw [exs] at w
  refine ⟨F, ρ, hs, hl, ?_⟩
  cases hr : ex c s ρ F.st with
  | nx ρ1 st =>
    rw [hr] at w
    intro F' H' σ' e x s' l'
    subst e
    exact ⟨F', ρ1, s', l', AftE.later x w⟩
  | bk ρ1 st => rw [hr] at w; exact w
  | ct ρ1 st => rw [hr] at w; exact w
  | rt d st => rw [hr] at w; exact w
  | exc k d ρ1 st => rw [hr] at w; exact w
  | bad => rw [hr] at w; exact w
/-- one turn of a loop -/
def forF (c : Cxt) (tg : List Nat) (tp : Bool) (b : Sms) (d : D) (ρ : Sl) (st : Store) : E := match asgT tg tp d ρ with
    | some ρ => exs c b ρ st
    | none => .bad
theorem ps_forF (G : GS T C W c n se X) {tg : List Nat} {tp : Bool} {s : Sr} {b : Sms} {tg' it : Expr} {b' : List Stmt} {pos : Pos} (hg : okG se tg tp tg' = true) (hn : notSet it = true) (hi : PI X tg' it (evwT C W c s)) (hb : PSs X b' (stsT C W c b)) :
    PS X (.For tg' it b' [] pos) (stT C W c (.for_ tg tp s b)) := by
  refine imp_s (ps_for G.own G.calm hi (pg_F G.sx hg) hb (notSet_ok hn)) fun D σ H ⟨F, ρ, hs, hl, w⟩ => ?_
  rw [ex] at w
  refine ⟨F, ρ, hs, hl, (AftE.thn hl w).mono fun F1 H1 wk J x1 s1 r1 q1 => ?_⟩
  have q1 : AftE C W F1 H1 (forGo wk (forF c tg tp b) wk.its ρ F1.st) D := q1
  refine ⟨fun i m σ H => m = wk.its.length - i ∧ i ≤ wk.its.length ∧ ∃ F ρ, Ext F1 H1 F H ∧ Sto F H ∧ Slo F H ρ σ ∧ AftE C W F H (forGo wk (forF c tg tp b) (wk.its.drop i) ρ F.st) D, ⟨_, rfl, Nat.zero_le _, F1, ρ, Ext.refl F1 H1, s1, hl.ext x1, q1⟩, ?_⟩
  rintro i m σ H ⟨rfl, hn, F, ρ, xe, sF, lF, q⟩
  by_cases hlt : i < wk.its.length
  · rw [List.drop_eq_getElem_cons hlt] at q
    unfold forGo at q
    split at q
    · rename_i st1
      obtain ⟨wr, _⟩ := r1 F H xe sF st1
      obtain ⟨jg, jy⟩ := wr i wk.its[i] (List.getElem?_eq_getElem hlt)
      refine .inr ⟨jg, fun σ H => ∃ F ρ, Ext F1 H1 F H ∧ Sto F H ∧ Slo F H ρ σ ∧ AftE C W F H (forGo wk (forF c tg tp b) (wk.its.drop (i + 1)) ρ F.st) D, fun σ' H' p' => ⟨_, by omega, rfl, hlt, p'⟩, fun v H' y => ?_⟩
      obtain ⟨x2, s2, rd⟩ := jy v H' y
      cases ea : asgT tg tp wk.its[i] ρ with
      | none =>
        have e : forF c tg tp b wk.its[i] ρ F.st = .bad := by unfold forF; rw [ea]
        rw [e] at q
        exact q.elim
      | some ρ1 =>
        have e : forF c tg tp b wk.its[i] ρ F.st = exs c b ρ1 F.st := by unfold forF; rw [ea]
        rw [e] at q
        refine ⟨F, ρ, _, ρ1, s2, lF.ext x2, rd, ea, fun σ1 l1 _ => ⟨F, ρ1, s2, l1, ?_⟩⟩
        cases hr : exs c b ρ1 F.st with
        | nx ρ2 st2 =>
          rw [hr] at q
          intro F' H'' σ' e x s' l'
          subst e
          exact ⟨F', ρ2, (xe.trans x2).trans x, s', l', AftE.later (x2.trans x) q⟩
        | ct ρ2 st2 =>
          rw [hr] at q
          intro F' H'' σ' e x s' l'
          subst e
          exact ⟨F', ρ2, (xe.trans x2).trans x, s', l', AftE.later (x2.trans x) q⟩
        | bk ρ2 st2 =>
          rw [hr] at q
          exact AftE.later x2 q
        | rt d st2 =>
          rw [hr] at q
          exact AftE.later x2 q
        | exc k d ρ2 st2 =>
          rw [hr] at q
          exact AftE.later x2 q
        | bad => rw [hr] at q; exact q.elim
    · exact q.elim
  · have e : i = wk.its.length := by omega
    subst e
    rw [List.drop_length] at q
    unfold forGo at q
    split at q
    · rename_i st1
      obtain ⟨_, js⟩ := r1 F H xe sF st1
      exact .inl ⟨js, q.nx_now sF lF⟩
    · exact q.elim
theorem ps_whlF (G : GS T C W c n se X) {t : Ex} {b : Sms} {t' : Expr} {b' : List Stmt} {pos : Pos} (ht : PT X t' (evTT C W c t)) (hb : PSs X b' (stsT C W c b)) : PS X (.While t' b' [] pos) (stT C W c (.whl t b)) := by
  refine imp_s (ps_while G.own ht hb) fun D σ H ⟨F, ρ, hs, hl, w⟩ => ?_
  rw [ex] at w
  refine ⟨fun m σ H => ∃ F ρ, Sto F H ∧ Slo F H ρ σ ∧ AftE C W F H (whlGo (fun ρ st => (ev c t ρ st).bind fun x st => ofO (tb x) st) (exs c b) m ρ F.st) D, ⟨c.whl, F, ρ, hs, hl, w⟩, ?_⟩
  rintro m σ H ⟨F, ρ, hs, hl, q⟩
  cases m with
  | zero => exact q.elim
  | succ m =>
    unfold whlGo at q
    refine ⟨F, ρ, hs, hl, ((AftE.thn (Rel := Eqr) hl q).eq_mono fun F1 H1 k x1 s1 q1 => ?_)⟩
    cases k with
    | false => exact q1.nx_now s1 (hl.ext x1)
    | true =>
      rw [if_pos rfl] at q1 ⊢
      refine ⟨fun σ H => ∃ F ρ, Sto F H ∧ Slo F H ρ σ ∧ AftE C W F H (whlGo (fun ρ st => (ev c t ρ st).bind fun x st => ofO (tb x) st) (exs c b) m ρ F.st) D, fun σ' H' p => ⟨m, Nat.lt_succ_self _, p⟩, F1, ρ, s1, hl.ext x1, ?_⟩
      cases hr : exs c b ρ F1.st with
      | nx ρ2 st2 =>
        rw [hr] at q1
        intro F' H'' σ' e x s' l'
        subst e
        exact ⟨F', ρ2, s', l', AftE.later x q1⟩
      | ct ρ2 st2 =>
        rw [hr] at q1
        intro F' H'' σ' e x s' l'
        subst e
        exact ⟨F', ρ2, s', l', AftE.later x q1⟩
      | bk ρ2 st2 => rw [hr] at q1; exact q1
      | rt d st2 => rw [hr] at q1; exact q1
      | exc k d ρ2 st2 => rw [hr] at q1; exact q1
      | bad => rw [hr] at q1; exact q1.elim
theorem ps_raiF (G : GS T C W c n se X) {k : Nat} {e : Ex} {x : Str} {y : Expr} {p q pos : Pos} (hx : T.exc[k]? = some x) (g1 : gloB se.sc x = true) (g2 : okNm x = true) (he : PE X y (evT C W c e)) (hsy : isStar y = false) : PS X (.Raise (some (.Call (.Name x p) [y] [] q)) none pos) (stT C W c (.rai k e)) := by
  refine imp_s (ps_raise G.calm G.tk (G.mkx k x hx g1 g2 he hsy)) fun D σ H ⟨F, ρ, hs, hl, w⟩ => ?_
  rw [ex] at w
  refine ⟨F, ρ, hs, hl, (AftE.thn hl w).mono fun F1 H1 d v x1 s1 r1 q1 dx hdx => ?_⟩
  have xf := Ext.fresh F1 (.xd [(("value" : Str), v)]) hdx
  have := q1 F1 _ σ dx v rfl xf (s1.fresh _ hdx) ((hl.ext x1).ext xf) upd_same (s1.nun hdx) hdx (r1.ext xf)
  rw [(G.exc k x hx).2.1] at this
  exact this
theorem ps_brkF {pos : Pos} : PS X (.Break pos) (stT C W c .brk) := by
  refine imp_s ps_break fun D σ H ⟨F, ρ, hs, hl, w⟩ => ?_
  rw [ex] at w
  exact w F H σ rfl (Ext.refl F H) hs hl
theorem ps_cntF {pos : Pos} : PS X (.Continue pos) (stT C W c .cnt) := by
  refine imp_s ps_continue fun D σ H ⟨F, ρ, hs, hl, w⟩ => ?_
  rw [ex] at w
  exact w F H σ rfl (Ext.refl F H) hs hl
theorem ps_pasF {pos : Pos} : PS X (.Pass pos) (stT C W c .pas) := by
  refine imp_s ps_pass fun D σ H ⟨F, ρ, hs, hl, w⟩ => ?_
  rw [ex] at w
  exact w.nx_now hs hl
theorem ps_docF {x : Str} {j : Nat} {pos pos' : Pos} : PS X (.Expr (.Constant (.str x) j pos) pos') (stT C W c .pas) := by
  refine imp_s ps_doc fun D σ H ⟨F, ρ, hs, hl, w⟩ => ?_
  rw [ex] at w
  exact w.nx_now hs hl
end
end MP
end
section
set_option maxRecDepth 100000
set_option maxHeartbeats 4000000
/-! MPTry: try: .. except C as e: y = e. -/
namespace MP
open PySem L2 PySem.Spec PyProof.Rows
variable [Glo]
section
variable {X : Cx} {pins : List (Addr × Obj)} {σ : L2.St} {H : Hp} {sI s' : Shared} {B : Heap}
/-- caught: the state with the exception's objects, the exception known from now on -/
theorem caught_inv {a c0 dx : Addr} {o : Obj} {vs : Array Value} (I : L2.Inv X pins σ H sI) (nb : ∀ b o, sI.heap.get? b = some o → b ∉ frs X.stack → B.get? b = some o) (st : B.StaysIn s'.heap) (up : sI.heap.UpToSlots s'.heap) (os : s'.os = sI.os) (ag : AllBare s'.gens)
    (hB : B.get? a = none) (hf : a ∉ frs X.stack) (na : H a = none) (ho : s'.heap.get? a = some o) (hz : Zc (.ref c0) (some dx) o) (hd : o.data = .fields vs) : L2.Inv X pins σ (upd H a (ExAt c0 dx a)) s' := by
  have fresh : ∀ {b : Addr} {u : Obj}, sI.heap.get? b = some u → b ≠ a := fun {b u} e z => by
    subst z
    have q := nb _ _ e hf
    rw [hB] at q
    cases q
  have slots : ∀ b ∈ frs X.stack, ∀ u, sI.heap.get? b = some u → ∃ sl, s'.heap.get? b = some { u with slots := sl } := fun b hb u e => by
    obtain ⟨_, u', e', hnd⟩ := I.stack.mem hb
    rw [e] at e'
    cases e'
    exact up b u e hnd
  have hok : HOk X.prog X.w (upd H a (ExAt c0 dx a)) s'.heap := HOk.laidN ((I.inGround nb).kept st) (fun _ _ q => q) na ⟨⟨o, vs, ho, hz.1, hz.2, hd⟩, ⟨o, ho⟩, fun _ _ ⟨o, v, q, r⟩ k => ⟨o, v, k o q, r⟩⟩
  have J := I.call (ch := []) (h' := s'.heap) (g' := s'.gens) (t' := s'.toks) (d' := s'.drawn) (H' := upd H a (ExAt c0 dx a))
    { keep := fun b u e _ hb _ => st b u (nb b u e hb)
      slot := fun b u e _ hb _ => slots b hb u e
      free := fun b u e q _ => by rw [upd_ne (fresh e)]; exact q
      there := fun b u e _ => by
        by_cases hb : b ∈ frs X.stack
        · obtain ⟨sl, q⟩ := slots b hb u e
          exact ⟨_, q⟩
        · exact ⟨u, st b u (nb b u e hb)⟩
      tups := fun b xs e => by rw [upd_ne (ne_of_none e na)]; exact e
      frzs := fun b u w e => by rw [upd_ne (ne_of_none e na)]; exact e
      tbls := fun b ps e => ⟨#[], by rw [upd_ne (ne_of_none e na), e]; simp⟩ } hok ag (fun _ z => nomatch z)
  obtain ⟨a1, a2, a3, a4, a5⟩ := s'
  have e5 : a5 = sI.os := os
  subst e5
  exact J
end
/-- what is wished of an exception of the body: caught and kept in slot j, or let through -/
def wKeep (K : PySem.W.Frag) (cl : Value) (i j : Nat) (W : WX) (D : Ends) : WX := fun v d σ H =>
  ∃ b, PySem.W.exmOne K v cl = some b ∧ (b = true → ∃ c0 dx, v = .ref c0 ∧ d = some dx ∧ ∀ a, H a = none → D.nx (((σ.set i (some (.ref a))).set j (some (.ref a))).set i none) (upd H a (ExAt c0 dx a))) ∧ (b = false → W v d σ H)
section
variable {X : Cx} {x m y : Str} {cl : Value} {i j : Nat} {body : List Stmt} {np py pm p2 pos pos' : Pos} {tb : WX → TS} {W : WX}
theorem ps_tryKeep (hs : X.stack = X.env :: X.outer) (hf : X.env.frame = some X.env.locals) (hN : X.N.Nodup) (hi : X.N[i]? = some m) (hlm : X.env.kindOf m = some .local) (hj : X.N[j]? = some y) (hly : Loc X.env.scope y) (hly2 : X.fn y = true ∨ X.env.scope.names.lookup y = some .local) (hij : i < X.N.length) (hm1 : (m == ("__debug__" : Str)) = false) (hm2 : (m == ("__classdict__" : Str)) = false)
    (hc : Names X x cl) (tk : Takes X W) (hb : ∀ (W' : WX) (pn : List (Addr × Obj)) (xe : Value → Shared → Prop), Takes (X.tr pn xe) W' → PassesOwn (model X.prog X.w) X.A X.env xe → PSs (X.tr pn xe) body (tb W')) :
    PS X (.Try body [.ExceptHandler (some (.Name x np)) (some m) [.Assign [.Name y py] (.Name m pm) p2] pos'] [] [] pos) (fun D σ H => tb (wKeep X.K cl i j W D) D σ H) := by
  refine ⟨fun pins s σ H D I h => ?_⟩
  have okX := I.ok
  have frA : X.A.frames = some (X.env :: X.outer) := by rw [okX.frames, hs]
  refine wpAny_Try_except (wpAny_mono ((hb (wKeep X.K cl i j W D) (X.pn ++ pins) (fun e s1 => wpAny (model X.prog X.w) X.A (noteFrame e X.env) (fun _ s2 => wpAny (model X.prog X.w) X.A (setFlight e none) (fun _ s3 =>
    wpAny (model X.prog X.w) X.A (handleBy e X.env [.ExceptHandler (some (.Name x np)) (some m) [.Assign [.Name y py] (.Name m pm) p2] pos']) (SP X pins D) X.xe s3) X.xe s2) X.xe s1) (fun u st xx => ?_) PassesOwn.looking).run [] s σ H D (I.toTry _) h) (fun fl s1 sp => ?_) fun _ _ he => he)
  · obtain ⟨a, B, sI, pins1, σ1, H1, cls, d, rfl, JT, nb, up, sky, na, os, ag, b, hb1, hyes, hno⟩ := xx
    have J : L2.Inv X pins σ1 H1 sI := JT.ofTry okX
    rw [show (X.tr (X.pn ++ pins) _).stack = X.env :: X.outer from hs] at sky
    show wpAny (model X.prog X.w) X.A (noteFrame (.ref a) X.env) _ _ _
    refine Sky.land Zc.steady frA hf sky fun h3 fl3 up3 => ?_
    obtain ⟨o3, v3, ho3, hz3, hd3⟩ := fl3.there
    have nfr : a ∉ frs (X.env :: X.outer) := fun hm => by
      obtain ⟨_, o', e', hnf⟩ := fl3.2.2.1.mem hm
      rw [ho3] at e'
      cases e'
      exact hnf _ hd3
    have nfs : a ∉ frs X.stack := by rw [hs]; exact nfr
    have J3 : L2.Inv X pins σ1 H1 { st with heap := h3 } := J.landed nb fl3.1 (up.trans up3) os ag
    refine wpAny_handleBy_cons (codeAny_handlers_test ?_) (by intro q; cases q)
    have LT : PySem.W.Looks (model X.prog X.w) h3 (typeOf (.ref a)) cls := fun A Q E s k q => wpAny_typeOf_ref (k _ _ ho3) (by rw [hz3.1]; exact q)
    have LM := PySem.W.exm_one (M := model X.prog X.w) J3.kIn LT hb1
    -- the clause's class, looked up
    have test : ∀ {Q : Value → Shared → Prop} {E : Value → Shared → Prop}, Q cl { st with heap := h3 } → wpAny (model X.prog X.w) (X.A.mark (some (.ref a))) (eval (.Name x np) X.env) Q E { st with heap := h3 } := fun {Q E} q => by
      have kX := J3.ok
      obtain ⟨hg, hdb, hm | ⟨hm, hv, hnn⟩⟩ := hc
      · exact Calls.Name_function_global kX.kind hg (Calls.loadGlobal_global (by rw [kX.glob]; exact J3.mod.glob.keeps J3.bk) hm q) hdb
      · obtain ⟨mb, b1, b2⟩ := J3.mod.blt
        exact Calls.Name_function_global kX.kind hg (Calls.loadGlobal_builtin (by rw [kX.glob]; exact J3.mod.glob.keeps J3.bk) hm (by rw [kX.blt]; exact b1.keeps J3.bk) ((b2 x hnn).trans hv) q) hdb
    refine test (LM.here ?_)
    cases b with
    | true =>
      obtain ⟨c0, dx, ec, ed, hq⟩ := hyes rfl
      subst ec ed
      refine codeAny_handlers_suite_as ?_
      refine HandSPX.lands_againZ fl3 fun h4 fl4 up4 => ?_
      obtain ⟨o4, v4, ho4, hz4, hd4⟩ := fl4.there
      have K4 : L2.Inv X pins σ1 (upd H1 a (ExAt c0 dx a)) { st with heap := h4 } := caught_inv (s' := { st with heap := h4 }) J nb fl4.1 ((up.trans up3).trans up4) os ag fl4.2.1 nfs na ho4 hz4 hd4
      have S4 : L2.Inv (X.suite a (X.pn ++ pins)) [] σ1 (upd H1 a (ExAt c0 dx a)) { st with heap := h4 } :=
        ⟨K4.ok.suite _ _, K4.os, K4.bare, K4.base, K4.loc, K4.cell, K4.free, K4.freeC, fun p hp => K4.pin p (by rw [List.append_nil] at hp; exact hp), K4.hok, K4.len⟩
      have un4 : ∀ {σ6 : L2.St} {H6 : Hp} {s6 : Shared}, L2.Inv (X.suite a (X.pn ++ pins)) [] σ6 H6 s6 → L2.Inv X pins σ6 H6 s6 := fun {σ6 H6 s6} S => ⟨okX, S.os, S.bare, S.base, S.loc, S.cell, S.free, S.freeC, fun p hp => S.pin p (List.mem_append_left _ hp), S.hok, S.len⟩
      refine store_ok (X := X.suite a (X.pn ++ pins)) (v := .ref a) S4 hN hi (.inl hlm) rfl (fun s5 S5 => ?_) (.inr hlm)
      have suite : PSs (X.suite a (X.pn ++ pins)) [.Assign [.Name y py] (.Name m pm) p2] (tAsg (tVar i) (gName j)) := pss_one (ps_set (i := j) hN hj hly (pe_var (i := i) hi (.inl hlm) hm1 hm2) (by rfl) hly2)
      have hi5 : i < (σ1.set i (some (V.ref a))).length := by
        rw [List.length_set]
        have := K4.len
        rw [this]
        exact hij
      refine wpAny_mono (suite.run [] s5 _ _ { nx := fun σ6 H6 => σ6 = (σ1.set i (some (.ref a))).set j (some (.ref a)) ∧ H6 = upd H1 a (ExAt c0 dx a), rt := fun _ _ => False } S5 ⟨.ref a, by rw [List.getElem?_set, if_pos rfl, if_pos (by rw [List.length_set] at hi5; exact hi5)], rfl, rfl⟩) (fun fl6 s6 sp6 => ?_) fun _ _ z => z.elim
      cases fl6 with
      | next =>
        obtain ⟨σ6, H6, S6, e6, e7⟩ := sp6
        subst e6 e7
        exact gone_ok (un4 S6) hN hi hlm fun s7 J7 => ⟨_, _, J7, hq a na⟩
      | brk => obtain ⟨_, _, _, z⟩ := sp6; exact z.elim
      | cont => obtain ⟨_, _, _, z⟩ := sp6; exact z.elim
      | ret u => obtain ⟨_, _, _, _, _, z⟩ := sp6; exact z.elim
    | false =>
      show wpAny _ X.A (handleBy (.ref a) X.env []) _ _ _
      refine wpAny_handleBy_nil ?_
      obtain ⟨k1, k2, k3, o5, v5, tb5, ot5, t5, ho5, hz5, hd5, h15, hr5⟩ := id fl3
      unfold PySem.passOn
      refine wpAny_bind (wpAny_field ho5 hd5 h15 ?_)
      rw [if_neg (show ¬ ((Value.ref tb5 == Value.none) = true) from by simp)]
      have fin : wpAny (model X.prog X.w) X.A (setFlight (.ref a) X.env.frame) (fun _ s4 => wpAny (model X.prog X.w) X.A (throw (.ref a) : Sem Flow) (SP X pins D) X.xe s4) X.xe { st with heap := h3 } := by
        rw [hf]
        refine HandSPX.setFlight_upZ fl3 fun h4 hh4 up4 => wpAny_throw (tk _ _ ?_)
        exact ⟨a, B, sI, pins, σ1, H1, cls, d, rfl, J, nb, (up.trans up3).trans up4, .inr (.inr (by rw [hs]; exact hh4)), na, os, ag, hno rfl⟩
      first
        | exact wpAny_bind (wpAny_pure (wpAny_bind fin))
        | exact wpAny_bind fin
  · cases fl with
    | next =>
      obtain ⟨σ1, H1, J, q⟩ := sp
      exact wpAny_execs_nil ⟨σ1, H1, J.ofTry okX, q⟩
    | brk =>
      obtain ⟨σ1, H1, J, q⟩ := sp
      exact ⟨σ1, H1, J.ofTry okX, q⟩
    | cont =>
      obtain ⟨σ1, H1, J, q⟩ := sp
      exact ⟨σ1, H1, J.ofTry okX, q⟩
    | ret u =>
      obtain ⟨v, σ1, H1, J, r, q⟩ := sp
      exact ⟨v, σ1, H1, J.ofTry okX, r, q⟩
end
end MP
end
section
set_option maxRecDepth 100000
set_option maxHeartbeats 4000000
/-! MPHole: exceptions whose __init__ says super().__init__(value); self.value = value. -/
namespace MP
open PySem PySem.W PySem.Calls PyProof.Rows PySem.HandSPX
/-- the text of that __init__ -/
def initBody (p : List Pos) : List Stmt := [
  .Expr (.Call (.Attribute (.Call (.Name "super" (p.getD 0 default)) [] [] (p.getD 1 default)) "__init__" (p.getD 2 default)) [.Name "value" (p.getD 3 default)] [] (p.getD 4 default)) (p.getD 5 default),
  .Assign [.Attribute (.Name "self" (p.getD 6 default)) "value" (p.getD 7 default)] (.Name "value" (p.getD 8 default)) (p.getD 9 default)]
/-- the __init__ of the class C stands at f -/
structure InitF (prog : Program) (K : Frag) (C f : Addr) (fd : FuncData) : Prop where
  lk : ∃ oc od osl, K.lookup f = some ⟨oc, od, .func fd, osl⟩
  body : ∃ p, fd.body = .stmts (initBody p) ∧ ((p.getD 2 default).endLine == (p.getD 4 default).line) = true
  kind : fd.scope.kind = .function
  co : fd.scope.isCoroutine = false
  gen : fd.scope.isGenerator = false
  nocell : ∀ x ∈ fd.scope.names, x.2 ≠ .cell
  sSelf : fd.scope.names.lookup ("self" : Str) = some .local
  sValue : fd.scope.names.lookup ("value" : Str) = some .local
  sSuper : fd.scope.names.lookup ("super" : Str) = some .globalImplicit
  sClass : fd.scope.names.lookup ("__class__" : Str) = some .free
  par : ∃ ar, (fd.params.posonlyargs ++ fd.params.args).head? = some ar ∧ ar.arg = ("self" : Str)
  glo : fd.globals = mainGlobals
  blt : fd.builtins = builtinsNs
  code : ∃ cd oc od vs file tf osl tq, fd.code = .ref cd ∧ K.lookup cd = some ⟨oc, od, .fields vs, osl⟩ ∧ vs[1]? = some (.str fd.qualname tq) ∧ vs[2]? = some (.str file tf) ∧ ((prog.main.file : Str) == file) = true
  clo : ∃ cc D oc od osl cdD, fd.closure = [(("__class__" : Str), cc)] ∧ K.lookup cc = some ⟨oc, od, .cell (some (.ref D)), osl⟩ ∧ clsIn K D = some cdD ∧ mroIn K C (.ref D) = some true ∧ ks_superIn K C D "__init__" = some (some (.builtin "ValueError.__init__"))
  top : (prog.main.scope.names.lookup ("super" : Str)).isSome = false
  noAny : nsIn K cStatics "thirdparty.any" = some none
  val : subIn K (.ref C) (.type "ValueError") = some true
  binds : ∀ (s : Shared) (a b : Value), K.In s.heap → BindsTo s fd ⟨[a, b], []⟩ [("self", a), ("value", b)]
section
variable {prog : Program} {w : World} {A : Around} {E : Value → Shared → Prop}
theorem eval_meth {o : Expr} {name x : Str} {ap cp q : Pos} {env : Env} (hline : (ap.endLine == cp.line) = true) : eval (.Call (.Attribute o name ap) [.Name x q] [] cp) env = (do
      let ov ← attributeBase o name env (eval o env)
      standAt ap.atName
      let (f, first) ← holding [ov] (getMethod ov name (do return (← importBound o env).getD true))
      callWith cp f first (backTo cp (starEach [.Name x q] env)) []) := by
  have hpos : methodCallPos true o env ap cp = pure cp := by unfold methodCallPos; simp [hline]
  rw [arm_eval_Call]
  congr 1
  funext ov
  congr 1
  funext _
  show methodCall o name ap cp env ov 1 (backTo cp (starEach [.Name x q] env)) [] = _
  unfold methodCall
  rw [show methodCallForm 1 (backTo cp (starEach [.Name x q] env)) [] = true from rfl]
  congr 1
  funext fx
  rw [hpos]
  rfl
theorem call_bwV {h : Heap} {g : Array GenState} {d : Drawn} {t : Nat} {os : OsState} {nm q : Str} {C N : Addr} {bs bm : List Value} {hdct : Bool} {sn : List Str} {sub : List Value} {ab : Bool} {col : Option Bool} {dd : Option Addr} {k0 k1 k2 k3 k5 : Option Value} {u e t0 : Addr} {rest : List Value} {Q : Value → Shared → Prop}
    (hC : h.get? C = some (excClassObj nm q C N bs bm hdct sn sub ab col dd k0 k1 k2 k3 k5 "ValueError.__new__")) (hT : ∀ X : String, bm.contains (.type X) = veTail.contains (.type X)) (he : h.get? e = some (excO C t0)) (hu : h.get? u = some (kxs_mw "ValueError.__init__" e)) (hrest : rest.length ≤ sizeLine)
    (hq : ∀ h' t1, (∀ b o, b ≠ e → h.get? b = some o → h'.get? b = some o) → h'.get? e = some (excO C t1) → Q .none ⟨h', g, d, t, os⟩) :
    wpAny (model prog w) A (call (.ref u) rest) Q E ⟨h, g, d, t, os⟩ := by
  refine wpAny_call (codeAny_of_tree ?_)
  show wpAny _ A.in1 (callAny (.ref u) ⟨rest, []⟩) _ _ _
  simp only [callAny]
  refine wpAny_bind (wpAny_load hu ?_)
  simp only [kxs_mw, show (Value.type "method-wrapper" == Value.type "method" || Value.type "method-wrapper" == Value.type "builtin_function_or_method" || Value.type "method-wrapper" == Value.type "method-wrapper") = true by decide, if_true]
  refine W.KFB.if_so (by decide) (wpAny_bind (ESX.check_bound F.excBase_ValueError hC he rfl (wpAny_bind (wpAny_pure (wpAny_pure ⟨Code.quiet_builtin _ (by decide +kernel), codeAny_builtin F.excBase_ValueError.initEntry ?_⟩)))))
  rw [Around.under_plainId F.excBase_ValueError.init.plain _]
  wp_walk
  refine hq _ h.objs.size (fun b o hb ho => ?_) ?_
  · exact (Heap.get?_update_other _ _ (Ne.symm hb)).trans (Heap.get?_push_of_some _ ho)
  · exact (Heap.get?_update_self _ (Heap.get?_push_of_some _ he) rfl).trans rfl
/-- the run of that __init__ -/
theorem init_run {K : Frag} {C f e t0 : Addr} {fd : FuncData} {v : Value} {s : Shared} {R : Result → Shared → Prop} {mg mb : Str → Option Value} (I : InitF prog K C f fd) (X : K.In s.heap) (hdep : A.depth < recursionLimit) (hlim : s.heap.NoLimit)
    (hg : s.heap.Ns mainGlobals mg) (hsup : mg "super" = none) (hb : s.heap.Ns builtinsNs mb) (hbs : mb "super" = some (.type "super"))
    {nm q : Str} {N : Addr} {bs bm : List Value} {sn : List Str} {sub : List Value} {ab : Bool} {col : Option Bool} {dd : Option Addr} {k0 k1 k2 k3 k5 : Option Value}
    (hC : K.lookup C = some (excClassObj nm q C N bs bm true sn sub ab col dd k0 k1 k2 k3 k5 "ValueError.__new__")) (hT : refsVE bm = true) (sa : findIn K (.ref C) "__setattr__" = some (some (.builtin "object.__setattr__"))) (hno : findIn K (.ref C) "value" = some none)
    (he : s.heap.get? e = some (excO C t0)) (hKe : K.lookup e = none)
    (h : ∀ h' tk dx t1, (∀ b o, b ≠ e → s.heap.get? b = some o → h'.get? b = some o) → s.heap.get? dx = none → dx ≠ e → h'.get? e = some { cls := .ref C, dict := some dx, data := .fields #[.ref t1, .none, .none, .none, .bool false, .none] } → h'.Ns1 dx (fun y => if y = ("value" : Str) then some v else none) → R (.ok (.ret .none)) { s with heap := h', toks := tk }) :
    codeAny (model prog w) A (.call (.ref f) ⟨[.ref e, v], []⟩) R s := by
  obtain ⟨oc, od, osl, lkf⟩ := I.lk
  obtain ⟨p, hbody, hline⟩ := I.body
  obtain ⟨cda, oc2, od2, vs2, file, tf, osl2, tq, hcd, lkc, hv1, hv2, hfile⟩ := I.code
  obtain ⟨cc, D, oc3, od3, osl3, cdD, hclo, lkcc, hclsD, hsub, hsuper⟩ := I.clo
  obtain ⟨ar, har, hself⟩ := I.par
  have hCh := X _ _ hC
  have hcl : clsIn K C = some { name := nm, bases := bs, mro := .ref C :: bm, ns := N, qualname := q, hasDict := true, slotNames := sn, subclasses := sub, abstract := ab, collection := col, hasDel := false } := by unfold clsIn; rw [hC] <;> rfl
  have hTv : ∀ Y : String, bm.contains (.type Y) = veTail.contains (.type Y) := fun Y => refsVE_contains Y bm hT
  obtain ⟨oD, hD1, hD2⟩ : ∃ oD, K.lookup D = some oD ∧ oD.data = .cls cdD := by
    unfold clsIn at hclsD
    split at hclsD
    · rename_i c d cd' sl ho
      cases hclsD
      exact ⟨_, ho, rfl⟩
    · cases hclsD
  have hbd : ("self" : Str) ≠ "value" := by decide
  refine ks_codeAny_call_defAt hdep (X _ _ lkf) rfl hlim ⟨cda, _, _, _, hcd, X _ _ lkc, rfl, hv1⟩ hbody (I.binds s (.ref e) v X) I.nocell (fun x hx => ?_) (fun h₀ hns k0' => ?_) I.co I.gen I.kind
  · rcases List.mem_cons.mp hx with rfl | hx
    · exact I.sSelf
    · rcases List.mem_cons.mp hx with rfl | hx
      · exact I.sValue
      · cases hx
  generalize henv : callEnv fd s.heap.objs.size f = env
  have eL : env.locals = s.heap.objs.size := by rw [← henv]; rfl
  have eS : env.scope = fd.scope := by rw [← henv]; rfl
  have eG : env.globals = mainGlobals := by rw [← henv]; exact I.glo
  have eB : env.builtins = builtinsNs := by rw [← henv]; exact I.blt
  have eF : env.func = some f := by rw [← henv]; rfl
  have eC : env.code = .ref cda := by rw [← henv]; exact hcd
  have eCl : env.cells = [(("__class__" : Str), cc)] := by rw [← henv]; exact hclo
  have kf : env.scope.kind = .function := by rw [eS]; exact I.kind
  have kSelf : env.kindOf "self" = some .local := by show env.scope.names.lookup _ = _; rw [eS]; exact I.sSelf
  have kValue : env.kindOf "value" = some .local := by show env.scope.names.lookup _ = _; rw [eS]; exact I.sValue
  have kSuper : env.kindOf "super" = some .globalImplicit := by show env.scope.names.lookup _ = _; rw [eS]; exact I.sSuper
  have kClass : env.kindOf "__class__" = some .free := by show env.scope.names.lookup _ = _; rw [eS]; exact I.sClass
  have lSelf : (fun x => ([(("self" : Str), Value.ref e), ("value", v)] : List (Str × Value)).reverse.lookup x) "self" = some (.ref e) := rfl
  have lValue : (fun x => ([(("self" : Str), Value.ref e), ("value", v)] : List (Str × Value)).reverse.lookup x) "value" = some v := rfl
  have neK : ∀ a o, K.lookup a = some o → a ≠ e := fun a o q z => by
    rw [z, hKe] at q
    cases q
  have X0 : K.In h₀ := fun b o q => k0' b o (X b o q)
  have he0 : h₀.get? e = some (excO C t0) := k0' _ _ he
  refine ks_wpAt_execs_cons (ks_wpAt_Expr_any (ks_wpAt_MethodCall (ks_wpAt_super_base kSuper kClass (by decide) eF (X0 _ _ lkf) rfl har eC (X0 _ _ lkc) rfl hv2 hfile I.top ?_) (eval_meth hline)) (by simp [interactive, kf]) rfl)
  refine ks_loadName_global kf kSuper (loadGlobal_builtin (by rw [eG]; exact hg.keeps k0') hsup (by rw [eB]; exact hb.keeps k0') hbs ⟨rfl, ?_⟩)
  refine wpAny_loadName_free kf kClass (by rw [eCl]; rfl) ⟨_, X0 _ _ lkcc, rfl⟩ ?_
  rw [hself]
  refine wpAny_loadName_local kf kSelf (by rw [eL]; exact hns) lSelf ?_
  refine ks_wpAny_isType_cls (X0 _ _ hD1) hD2 ⟨rfl, ?_⟩
  refine ks_wpAny_call_super (X0 _ _ hD1) hD2 he0 rfl (fun c z => nomatch z) (looks_mroIn X0 hsub) (fun h1 e1 k1 => ?_)
  have X1 : K.In h1 := fun b o q => k1 b o (X0 b o q)
  have he1 : h1.get? e = some (excO C t0) := k1 _ _ he0
  have hI1 : Looks (model prog w) h1 (isInstance (.ref e) (.type "ValueError")) true := (InstAt.type (ox := excO C t0) (od := none) ⟨he1, rfl, rfl, trivial⟩).andThen (looks_subIn X1 I.val)
  refine kxs_getMethod kxs_ValueError e1 (looks_opaque X1 I.noAny) (l₀ := Value.ref C :: bm) (fun A Q E s k q => wpAny_bind ((looks_clsIn X1 hcl) A _ E s k (wpAny_pure q))) rfl X1 (by unfold ks_superIn at hsuper; rw [hcl] at hsuper; exact hsuper) hI1 (fun z => neK C _ hC z.symm) (by decide) ?_
  have X2 : K.In (h1.push (kxs_mw "ValueError.__init__" e)) := fun b o q => Heap.get?_push_of_some _ (X1 b o q)
  have k2 : ∀ b o, s.heap.get? b = some o → (h1.push (kxs_mw "ValueError.__init__" e)).get? b = some o := fun b o q => Heap.get?_push_of_some _ (k1 b o (k0' b o q))
  have hns2 : (h1.push (kxs_mw "ValueError.__init__" e)).Ns s.heap.objs.size (fun x => ([(("self" : Str), Value.ref e), ("value", v)] : List (Str × Value)).reverse.lookup x) := hns.keeps fun b o q => Heap.get?_push_of_some _ (k1 b o q)
  refine kxs_callWith (i := "ValueError.__init__") (x := e) (by rfl) (evalArgs_plain (Calls.spliced_cons (wpAny_Name (wpAny_loadName_local kf kValue (by rw [eL]; exact hns2) lValue (Calls.spliced_nil ⟨Heap.get?_push_size _ rfl, ?_⟩)) (by decide))))
  refine call_bwV (X2 _ _ hC) hTv (Heap.get?_push_of_some _ he1) (Heap.get?_push_size _ rfl) (by show 1 ≤ sizeLine; rw [sizeLine_eq]; decide) fun h3 t1 k3 e3 => ?_
  have k3' : ∀ b o, b ≠ e → s.heap.get? b = some o → h3.get? b = some o := fun b o hb q => k3 b o hb (k2 b o q)
  have X3 : K.In h3 := fun b o q => k3 b o (neK b o q) (X2 b o q)
  have eLne : s.heap.objs.size ≠ e := Nat.ne_of_gt (Heap.lt_size he)
  have hns3 : h3.Ns s.heap.objs.size (fun x => ([(("self" : Str), Value.ref e), ("value", v)] : List (Str × Value)).reverse.lookup x) := by
    obtain ⟨o, es, ep, q1, q2⟩ := hns2
    exact ⟨o, es, ep, k3 _ _ eLne q1, q2⟩
  refine wpAt_of_wpAny (wpAny_execs_cons (plainObj_wpAny_Assign_Attribute (wpAny_Name (wpAny_loadName_local kf kValue (by rw [eL]; exact hns3) lValue (wpAny_Name (wpAny_loadName_local kf kSelf (by rw [eL]; exact hns3) lSelf ?_) (by decide))) (by decide)) (by rfl)))
  refine set_plain X3 (ox := excO C t1) (od := none) ⟨e3, rfl, rfl, trivial⟩ sa ?_
  refine exc_osa X3 e3 hcl (show refsVE (.ref C :: bm) = true from hT) rfl hno fun h4 tk4 dx k4 d4 dne e4 n4 => ?_
  refine wpAny_execs_nil ?_
  have hdx : s.heap.get? dx = none := by
    cases q : s.heap.get? dx with
    | none => rfl
    | some o => exact absurd (Heap.lt_size (k3' dx o dne q)) (Nat.not_lt.mpr d4)
  exact h h4 _ dx t1 (fun b o hb q => k4 b o hb (k3' b o hb q)) hdx dne e4 n4
end
end MP
namespace MP
open PySem L2 PySem.Spec PyProof.Rows
variable [Glo]
/-- a class of the module whose instances hold their value -/
structure HoleC (prog : Program) (K : PySem.W.Frag) (C : Addr) : Prop where
  oex : OexC K C
  ini : ∃ f fd, PySem.W.findIn K (.ref C) "__init__" = some (some (.ref f)) ∧ PySem.W.typeIn K (.ref f) = some (.type "function") ∧ InitF prog K C f fd
  no : PySem.W.findIn K (.ref C) "value" = some none
theorem mkx_of {X : Cx} {k n : Nat} {x : Str} (h : HoleC X.prog X.K (Glo.cl k)) (hm : X.mg x = some (.ref (Glo.cl k))) (hs : X.mg "super" = none) (hr : Room n X.A) (hg : Gl X x) (hd : (x == ("__debug__" : Str)) = false) : MkX X k x := by
  obtain ⟨oex, ⟨f, fd, iC, tI, IF⟩, no⟩ := h
  obtain ⟨nm, q, N, bs, bm, sn, sub, ab, col, dd, k0, k1, k2, k3, k5, hC, hbm⟩ := oex.cls
  intro y ty p pos hy hsy pins s σ H Q I w
  refine wpAny_Call_Name_kw (ld_glob I hg hm ?_ hd)
  refine PySem.W.callWith_K (h₀ := X.base) I.ok.mod.kin oex.kC ?_ (star_cons hsy) rfl
  refine thn ((pa_cons hy pa_nil (star_cons hsy)).run pos pins s σ H (fun vs H1 => match vs with
    | [v] => ∀ dx, H1 dx = none → Q (.ref (Glo.cl k)) (some dx) (upd H1 dx (.xd [(("value" : Str), v)]))
    | _ => False) I w) fun us s1 ⟨vs, H1, I1, r1, q1⟩ => ⟨I1.kIn, ?_⟩
  rcases vs with _ | ⟨v, _ | ⟨_, _⟩⟩
  · exact q1.elim
  rotate_left
  · exact q1.elim
  have q1 : ∀ dx, H1 dx = none → Q (.ref (Glo.cl k)) (some dx) (upd H1 dx (.xd [(("value" : Str), v)])) := q1
  obtain ⟨u, rfl, ru⟩ := L2.vals1 r1
  show wpAny _ _ (call (.ref (Glo.cl k)) [u]) _ _ _
  obtain ⟨hp, g, dr, tk, os⟩ := s1
  have keep2 : ∀ b o, hp.get? b = some o → ((hp.push (PySem.W.kdv_tup [u])).push (PySem.HandSPX.excO (Glo.cl k) hp.objs.size)).get? b = some o := fun b o e => Heap.get?_push_of_some _ (Heap.get?_push_of_some _ e)
  have hget : ((hp.push (PySem.W.kdv_tup [u])).push (PySem.HandSPX.excO (Glo.cl k) hp.objs.size)).get? (hp.objs.size + 1) = some (PySem.HandSPX.excO (Glo.cl k) hp.objs.size) := by heap_get
  have KX : X.K.In hp := I1.kIn
  obtain ⟨mb, b1, b2⟩ := I1.mod.blt
  have dp : X.A.depth + 3 * n + 5 < recursionLimit := hr.dp
  refine wpAny_call (PySem.HandSPX.call_own F.excBase_ValueError (fun Y => PySem.HandSPX.refsVE_contains Y bm hbm) (KX _ _ hC) (PySem.W.looks_findIn KX iC) (fun self => PySem.W.bind_fn KX self tI) (by show 1 ≤ sizeLine; rw [sizeLine_eq]; decide) ?_)
  refine init_run (A := X.A.under (.builtin "type.__call__" ⟨.ref (Glo.cl k) :: [u], []⟩)) (v := u) (mg := X.mg) (mb := mb) IF (fun b o q => keep2 b o (KX b o q)) (by rw [make_depth]; show X.A.depth + 1 < recursionLimit; omega) (I1.nolimit.keeps keep2) (I1.mod.glob.keeps fun b o e => keep2 b o (I1.bk b o e)) hs (b1.keeps fun b o e => keep2 b o (I1.bk b o e)) ((b2 _ (by decide)).trans (by decide +kernel)) hC hbm oex.sa no hget ?_ fun h' tk' dx t1 kk hdx dne e' n' => ?_
  · cases e : X.K.lookup (hp.objs.size + 1) with
    | none => rfl
    | some o => exact absurd (Heap.lt_size (KX _ _ e)) (Nat.not_lt.mpr (Nat.le_succ _))
  refine ⟨rfl, ?_⟩
  show MkP X pins σ Q (.ref (hp.objs.size + 1)) _
  have nx : H1 dx = none := I1.hok.gone (by
    cases e : hp.get? dx with
    | none => rfl
    | some o => exact absurd (keep2 _ _ e) (by rw [show ((hp.push (PySem.W.kdv_tup [u])).push (PySem.HandSPX.excO (Glo.cl k) hp.objs.size)).get? dx = none from hdx]; exact fun z => nomatch z))
  have px : hp.get? dx = none := by
    cases e : hp.get? dx with
    | none => rfl
    | some o => exact absurd (keep2 _ _ e) (by rw [show ((hp.push (PySem.W.kdv_tup [u])).push (PySem.HandSPX.excO (Glo.cl k) hp.objs.size)).get? dx = none from hdx]; exact fun z => nomatch z)
  obtain ⟨G, g1, g2⟩ := restrict h' fun b => decide (b ≠ hp.objs.size + 1)
  have gk : ∀ b, b ≠ hp.objs.size + 1 → G.get? b = h'.get? b := fun b hb => g1 b (decide_eq_true hb)
  have ge : G.get? (hp.objs.size + 1) = none := g2 _ (by simp)
  have lt : ∀ {b : Addr} {o : Obj}, hp.get? b = some o → b ≠ hp.objs.size + 1 := fun {b o} e z => by
    have h1 : b < hp.objs.size := Heap.lt_size e
    have z1 : (b : Nat) = hp.objs.size + 1 := z
    exact absurd h1 (by rw [z1]; exact Nat.not_lt.mpr (Nat.le_succ _))
  have ne : H1 (hp.objs.size + 1) = none := I1.hok.fresh (Nat.le_succ _)
  have new : ObjOk X.prog X.w (upd H1 dx (.xd [(("value" : Str), v)])) G dx (.xd [(("value" : Str), v)]) := by
    refine ⟨_, n'.at fun o y => (gk dx dne).trans y, fun nn => ?_⟩
    by_cases hn : nn = ("value" : Str)
    · subst hn
      simp only [if_true]
      exact ru
    · have e1 : ([(("value" : Str), v)] : List (Str × V)).lookup nn = none := by
        show (match nn == ("value" : Str) with | true => some v | false => none) = none
        rw [beq_eq_false_iff_ne.mpr hn]
      rw [e1, if_neg hn]
      exact True.intro
  have J := Inv.laidN (h' := G) (t' := tk') I1 (fun b o e => (gk b (lt e)).trans (kk b o (lt e) (keep2 b o e))) px nx new
  exact ⟨hp.objs.size + 1, _, _, { heap := G, gens := g, drawn := dr, toks := tk', os := os }, _, .ref (Glo.cl k), some dx, rfl, J, fun b o e => by
    by_cases hb : b = hp.objs.size + 1
    · rw [hb, ge] at e
      cases e
    · exact (gk b hb).symm.trans e, ge, e', ⟨rfl, rfl⟩, rfl, rfl, by rw [upd_ne (Ne.symm dne)]; exact ne, rfl, I1.bare, raises_own oex.exC oex.tyC, q1 dx nx⟩
end MP
end
section
set_option maxRecDepth 100000
set_option maxHeartbeats 4000000
/-! MPTry2: try: .. except C as m: suite. -/
namespace MP
open PySem L2 PySem.Spec PyProof.Rows
variable [Glo]
/-- what is wished of an exception of the body: caught, its suite gone through; or let through -/
def wGen (K : PySem.W.Frag) (cl : Value) (i : Nat) (ts : TS) (W : WX) (D : Ends) : WX := fun v d σ H =>
  ∃ b, PySem.W.exmOne K v cl = some b ∧ (b = true → ∃ c0 dx, v = .ref c0 ∧ d = some dx ∧ ∀ a, H a = none → ts { nx := fun σ' H' => D.nx (σ'.set i none) H', rt := fun _ _ => False } (σ.set i (some (.ref a))) (upd H a (ExAt c0 dx a))) ∧ (b = false → W v d σ H)
section
variable {X : Cx} {x m : Str} {cl : Value} {i : Nat} {b0 : Stmt} {body bs : List Stmt} {np pos pos' : Pos} {tb : WX → TS} {ts : TS} {W : WX}
theorem ps_tryG (hs : X.stack = X.env :: X.outer) (hf : X.env.frame = some X.env.locals) (hN : X.N.Nodup) (hi : X.N[i]? = some m) (hlm : X.env.kindOf m = some .local) (hsu : ∀ (a : Addr) (pn : List (Addr × Obj)), PSs (X.suite a pn) (b0 :: bs) ts)
    (hc : Names X x cl) (tk : Takes X W) (hb : ∀ (W' : WX) (pn : List (Addr × Obj)) (xe : Value → Shared → Prop), Takes (X.tr pn xe) W' → PassesOwn (model X.prog X.w) X.A X.env xe → PSs (X.tr pn xe) body (tb W')) :
    PS X (.Try body [.ExceptHandler (some (.Name x np)) (some m) (b0 :: bs) pos'] [] [] pos) (fun D σ H => tb (wGen X.K cl i ts W D) D σ H) := by
  refine ⟨fun pins s σ H D I h => ?_⟩
  have okX := I.ok
  have frA : X.A.frames = some (X.env :: X.outer) := by rw [okX.frames, hs]
  refine wpAny_Try_except (wpAny_mono ((hb (wGen X.K cl i ts W D) (X.pn ++ pins) (fun e s1 => wpAny (model X.prog X.w) X.A (noteFrame e X.env) (fun _ s2 => wpAny (model X.prog X.w) X.A (setFlight e none) (fun _ s3 =>
    wpAny (model X.prog X.w) X.A (handleBy e X.env [.ExceptHandler (some (.Name x np)) (some m) (b0 :: bs) pos']) (SP X pins D) X.xe s3) X.xe s2) X.xe s1) (fun u st xx => ?_) PassesOwn.looking).run [] s σ H D (I.toTry _) h) (fun fl s1 sp => ?_) fun _ _ he => he)
  · obtain ⟨a, B, sI, pins1, σ1, H1, cls, d, rfl, JT, nb, up, sky, na, os, ag, b, hb1, hyes, hno⟩ := xx
    have J : L2.Inv X pins σ1 H1 sI := JT.ofTry okX
    rw [show (X.tr (X.pn ++ pins) _).stack = X.env :: X.outer from hs] at sky
    show wpAny (model X.prog X.w) X.A (noteFrame (.ref a) X.env) _ _ _
    refine Sky.land Zc.steady frA hf sky fun h3 fl3 up3 => ?_
    obtain ⟨o3, v3, ho3, hz3, hd3⟩ := fl3.there
    have nfr : a ∉ frs (X.env :: X.outer) := fun hm => by
      obtain ⟨_, o', e', hnf⟩ := fl3.2.2.1.mem hm
      rw [ho3] at e'
      cases e'
      exact hnf _ hd3
    have nfs : a ∉ frs X.stack := by rw [hs]; exact nfr
    have J3 : L2.Inv X pins σ1 H1 { st with heap := h3 } := J.landed nb fl3.1 (up.trans up3) os ag
    refine wpAny_handleBy_cons (codeAny_handlers_test ?_) (by intro q; cases q)
    have LT : PySem.W.Looks (model X.prog X.w) h3 (typeOf (.ref a)) cls := fun A Q E s k q => wpAny_typeOf_ref (k _ _ ho3) (by rw [hz3.1]; exact q)
    have LM := PySem.W.exm_one (M := model X.prog X.w) J3.kIn LT hb1
    -- the clause's class, looked up
    have test : ∀ {Q : Value → Shared → Prop} {E : Value → Shared → Prop}, Q cl { st with heap := h3 } → wpAny (model X.prog X.w) (X.A.mark (some (.ref a))) (eval (.Name x np) X.env) Q E { st with heap := h3 } := fun {Q E} q => by
      have kX := J3.ok
      obtain ⟨hg, hdb, hm | ⟨hm, hv, hnn⟩⟩ := hc
      · exact Calls.Name_function_global kX.kind hg (Calls.loadGlobal_global (by rw [kX.glob]; exact J3.mod.glob.keeps J3.bk) hm q) hdb
      · obtain ⟨mb, b1, b2⟩ := J3.mod.blt
        exact Calls.Name_function_global kX.kind hg (Calls.loadGlobal_builtin (by rw [kX.glob]; exact J3.mod.glob.keeps J3.bk) hm (by rw [kX.blt]; exact b1.keeps J3.bk) ((b2 x hnn).trans hv) q) hdb
    refine test (LM.here ?_)
    cases b with
    | true =>
      obtain ⟨c0, dx, ec, ed, hq⟩ := hyes rfl
      subst ec ed
      refine codeAny_handlers_suite_as ?_
      refine HandSPX.lands_againZ fl3 fun h4 fl4 up4 => ?_
      obtain ⟨o4, v4, ho4, hz4, hd4⟩ := fl4.there
      have K4 : L2.Inv X pins σ1 (upd H1 a (ExAt c0 dx a)) { st with heap := h4 } := caught_inv (s' := { st with heap := h4 }) J nb fl4.1 ((up.trans up3).trans up4) os ag fl4.2.1 nfs na ho4 hz4 hd4
      have S4 : L2.Inv (X.suite a (X.pn ++ pins)) [] σ1 (upd H1 a (ExAt c0 dx a)) { st with heap := h4 } :=
        ⟨K4.ok.suite _ _, K4.os, K4.bare, K4.base, K4.loc, K4.cell, K4.free, K4.freeC, fun p hp => K4.pin p (by rw [List.append_nil] at hp; exact hp), K4.hok, K4.len⟩
      have un4 : ∀ {σ6 : L2.St} {H6 : Hp} {s6 : Shared}, L2.Inv (X.suite a (X.pn ++ pins)) [] σ6 H6 s6 → L2.Inv X pins σ6 H6 s6 := fun {σ6 H6 s6} S => ⟨okX, S.os, S.bare, S.base, S.loc, S.cell, S.free, S.freeC, fun p hp => S.pin p (List.mem_append_left _ hp), S.hok, S.len⟩
      refine store_ok (X := X.suite a (X.pn ++ pins)) (v := .ref a) S4 hN hi (.inl hlm) rfl (fun s5 S5 => ?_) (.inr hlm)
      refine wpAny_mono ((hsu a (X.pn ++ pins)).run [] s5 _ _ { nx := fun σ' H' => D.nx (σ'.set i none) H', rt := fun _ _ => False } S5 (hq a na)) (fun fl6 s6 sp6 => ?_) fun _ _ z => z.elim
      cases fl6 with
      | next =>
        obtain ⟨σ6, H6, S6, q6⟩ := sp6
        exact gone_ok (un4 S6) hN hi hlm fun s7 J7 => ⟨_, _, J7, q6⟩
      | brk => obtain ⟨_, _, _, z⟩ := sp6; exact z.elim
      | cont => obtain ⟨_, _, _, z⟩ := sp6; exact z.elim
      | ret u => obtain ⟨_, _, _, _, _, z⟩ := sp6; exact z.elim
    | false =>
      show wpAny _ X.A (handleBy (.ref a) X.env []) _ _ _
      refine wpAny_handleBy_nil ?_
      obtain ⟨k1, k2, k3, o5, v5, tb5, ot5, t5, ho5, hz5, hd5, h15, hr5⟩ := id fl3
      unfold PySem.passOn
      refine wpAny_bind (wpAny_field ho5 hd5 h15 ?_)
      rw [if_neg (show ¬ ((Value.ref tb5 == Value.none) = true) from by simp)]
      have fin : wpAny (model X.prog X.w) X.A (setFlight (.ref a) X.env.frame) (fun _ s4 => wpAny (model X.prog X.w) X.A (throw (.ref a) : Sem Flow) (SP X pins D) X.xe s4) X.xe { st with heap := h3 } := by
        rw [hf]
        refine HandSPX.setFlight_upZ fl3 fun h4 hh4 up4 => wpAny_throw (tk _ _ ?_)
        exact ⟨a, B, sI, pins, σ1, H1, cls, d, rfl, J, nb, (up.trans up3).trans up4, .inr (.inr (by rw [hs]; exact hh4)), na, os, ag, hno rfl⟩
      first
        | exact wpAny_bind (wpAny_pure (wpAny_bind fin))
        | exact wpAny_bind fin
  · cases fl with
    | next =>
      obtain ⟨σ1, H1, J, q⟩ := sp
      exact wpAny_execs_nil ⟨σ1, H1, J.ofTry okX, q⟩
    | brk =>
      obtain ⟨σ1, H1, J, q⟩ := sp
      exact ⟨σ1, H1, J.ofTry okX, q⟩
    | cont =>
      obtain ⟨σ1, H1, J, q⟩ := sp
      exact ⟨σ1, H1, J.ofTry okX, q⟩
    | ret u =>
      obtain ⟨v, σ1, H1, J, r, q⟩ := sp
      exact ⟨v, σ1, H1, J.ofTry okX, r, q⟩
end
/-! ### in an except suite -/
section
variable {T : Tab} {C : Nat → Addr} {W : WX} {c : Cxt} {n : Nat} {se : SE} {X : Cx}
def tHeld (i : Nat) : TE := fun σ H Q => ∃ F k d v, σ[i]? = some (some v) ∧ Sto F H ∧ Rep F H (.exv k d) v ∧ ∀ u, Rep F H d u → Q u H
/-- e.value, of what was caught -/
theorem pe_held (G : GX T C W c n se X) {i : Nat} {m : Str} {pm pos : Pos} {a : Addr} {pn : List (Addr × Obj)} (hi : X.N[i]? = some m) (hlm : X.env.kindOf m = some .local) (h1 : (m == ("__debug__" : Str)) = false) (h2 : (m == ("__classdict__" : Str)) = false) (hb : baseB (.Name m pm) = true) :
    PE (X.suite a pn) (.Attribute (.Name m pm) "value" pos) (tHeld i) := by
  refine ⟨fun pins s σ H Q I ⟨F, k, d, v, hv, hs, hr, q⟩ => ?_⟩
  refine attr_of (baseB_ok hb) (thn ((pe_var (X := X.suite a pn) (i := i) hi (.inl hlm) h1 h2).run pins s σ H (fun v' H1 => v' = v ∧ H1 = H) I ⟨v, hv, rfl, rfl⟩) fun u s1 ⟨v', H1, I1, r1, e1, e2⟩ => ?_)
  subst e1
  rw [e2] at I1
  obtain ⟨hk, a', dx, u', e, _, ha, _, hd, hr'⟩ := hr
  rw [G.nx] at hk
  obtain ⟨_, _, ef⟩ := G.exc k _ (List.getElem?_eq_getElem hk)
  obtain ⟨⟨o, vs, g1, g2, g3, g4⟩, _⟩ := (show ObjOk X.prog X.w H s1.heap a' (ExAt (Glo.cl k) dx a') from I1.hok a' _ ha)
  have hx : ObjOk X.prog X.w H s1.heap dx (.xd [(("value" : Str), u')]) := I1.hok dx _ hd
  obtain ⟨mA, hns, hrel⟩ := hx
  obtain ⟨od, ho, hl⟩ := lookIn_ns hns
  obtain ⟨w, hw, rw'⟩ := RelO.some_of (v := u') (o := mA ("value" : Str)) (hrel ("value" : Str))
  have J : PySem.W.InstAt s1.heap a' o (Glo.cl k) (some od) := ⟨g1, g2, by unfold PySem.W.notCls; rw [g4] <;> rfl, by rw [g3]; exact ho⟩
  have hl2 : PySem.W.lookIn ("value" : Str) od = some (some w) := by rw [hl, hw]
  subst e
  obtain rfl : u = Value.ref a' := r1
  exact HandSPX.exc_get I1.kIn J ef.ga ef.gt ef.sub (PySem.W.findObj_own ef.dct ef.val rfl hl2) (handed_of rw') ⟨u', H, I1.tok _, rw', q u' hr'⟩
/-- y = repr(m.value), of what was caught -/
theorem ps_putR (G : GX T C W c n se X) {i j : Nat} {m y : Str} {py p pm pv pc p2 : Pos} {a : Addr} {pn : List (Addr × Obj)} (hi : X.N[i]? = some m) (hlm : X.env.kindOf m = some .local) (h1 : (m == ("__debug__" : Str)) = false) (h2 : (m == ("__classdict__" : Str)) = false) (hb : baseB (.Name m pm) = true)
    (hj : X.N[j]? = some y) (hly : Loc X.env.scope y) (hly2 : X.fn y = true ∨ X.env.scope.names.lookup y = some .local) (g : gloB se.sc "repr" = true) :
    PSs (X.suite a pn) [.Assign [.Name y py] (.Call (.Name "repr" p) [.Attribute (.Name m pm) "value" pv] [] pc) p2] (tAsg (tCB (rBlt .repr) (tCons (tHeld i) tNil)) (gName j)) := by
  have hg : (X.suite a pn).A.guards = some [] := G.gd
  have hr : CallR (X.suite a pn) (.builtin "repr") (rBlt .repr) := cr_reprU (n := n) (X := X.suite a pn) G.room.un hg
  have he : PE (X.suite a pn) (.Call (.Name "repr" p) [.Attribute (.Name m pm) "value" pv] [] pc) (tCB (rBlt .repr) (tCons (tHeld i) tNil)) :=
    pe_callB (X := X.suite a pn) hr (gloB_ok (by show gloB X.env.scope "repr" = true; rw [G.sc]; exact g)) (G.bl _ (by decide)) PyProof.Rows.boot_repr (pa_cons (pe_held G hi hlm h1 h2 hb) pa_nil)
  exact pss_one (ps_set (X := X.suite a pn) (i := j) (by show X.N.Nodup; rw [G.N]; exact G.nd) hj hly he (by rfl) hly2)
/-- y = m.value -/
theorem ps_putV (G : GX T C W c n se X) {i j : Nat} {m y : Str} {py pm pv p2 : Pos} {a : Addr} {pn : List (Addr × Obj)} (hi : X.N[i]? = some m) (hlm : X.env.kindOf m = some .local) (h1 : (m == ("__debug__" : Str)) = false) (h2 : (m == ("__classdict__" : Str)) = false) (hb : baseB (.Name m pm) = true)
    (hj : X.N[j]? = some y) (hly : Loc X.env.scope y) (hly2 : X.fn y = true ∨ X.env.scope.names.lookup y = some .local) :
    PSs (X.suite a pn) [.Assign [.Name y py] (.Attribute (.Name m pm) "value" pv) p2] (tAsg (tHeld i) (gName j)) :=
  pss_one (ps_set (X := X.suite a pn) (i := j) (by show X.N.Nodup; rw [G.N]; exact G.nd) hj hly (pe_held G hi hlm h1 h2 hb) (by rfl) hly2)
end
end MP
end
section
set_option maxRecDepth 100000
set_option maxHeartbeats 8000000
/-! MPSnd22: every statement that the static look lets. -/
namespace MP
open PySem L2
/-! ### parts of a written statement -/
def asAsg : Stmt → Option (Expr × Expr)
  | .Assign [t] y _ => some (t, y)
  | _ => none
theorem asAsg_eq {x : Stmt} {t y : Expr} (h : asAsg x = some (t, y)) : ∃ p, x = .Assign [t] y p := by
  unfold asAsg at h
  split at h
  · cases h; exact ⟨_, rfl⟩
  · cases h
def asAug : Stmt → Option (Expr × Operator × Expr)
  | .AugAssign t o y _ => some (t, o, y)
  | _ => none
theorem asAug_eq {x : Stmt} {t y : Expr} {o : Operator} (h : asAug x = some (t, o, y)) : ∃ p, x = .AugAssign t o y p := by
  unfold asAug at h
  split at h
  · cases h; exact ⟨_, rfl⟩
  · cases h
def asExp : Stmt → Option Expr
  | .Expr y _ => some y
  | _ => none
theorem asExp_eq {x : Stmt} {y : Expr} (h : asExp x = some y) : ∃ p, x = .Expr y p := by
  unfold asExp at h
  split at h
  · cases h; exact ⟨_, rfl⟩
  · cases h
def asRet : Stmt → Option (Option Expr)
  | .Return y _ => some y
  | _ => none
theorem asRet_eq {x : Stmt} {y : Option Expr} (h : asRet x = some y) : ∃ p, x = .Return y p := by
  unfold asRet at h
  split at h
  · cases h; exact ⟨_, rfl⟩
  · cases h
def asIfS : Stmt → Option (Expr × List Stmt × List Stmt)
  | .If t a b _ => some (t, a, b)
  | _ => none
theorem asIfS_eq {x : Stmt} {t : Expr} {a b : List Stmt} (h : asIfS x = some (t, a, b)) : ∃ p, x = .If t a b p := by
  unfold asIfS at h
  split at h
  · cases h; exact ⟨_, rfl⟩
  · cases h
def asFor : Stmt → Option (Expr × Expr × List Stmt)
  | .For t i b [] _ => some (t, i, b)
  | _ => none
theorem asFor_eq {x : Stmt} {t i : Expr} {b : List Stmt} (h : asFor x = some (t, i, b)) : ∃ p, x = .For t i b [] p := by
  unfold asFor at h
  split at h
  · cases h; exact ⟨_, rfl⟩
  · cases h
def asWhl : Stmt → Option (Expr × List Stmt)
  | .While t b [] _ => some (t, b)
  | _ => none
theorem asWhl_eq {x : Stmt} {t : Expr} {b : List Stmt} (h : asWhl x = some (t, b)) : ∃ p, x = .While t b [] p := by
  unfold asWhl at h
  split at h
  · cases h; exact ⟨_, rfl⟩
  · cases h
def isBrk : Stmt → Bool
  | .Break _ => true
  | _ => false
theorem isBrk_eq {x : Stmt} (h : isBrk x = true) : ∃ p, x = .Break p := by
  unfold isBrk at h
  split at h
  · exact ⟨_, rfl⟩
  · cases h
def isCnt : Stmt → Bool
  | .Continue _ => true
  | _ => false
theorem isCnt_eq {x : Stmt} (h : isCnt x = true) : ∃ p, x = .Continue p := by
  unfold isCnt at h
  split at h
  · exact ⟨_, rfl⟩
  · cases h
def isPas : Stmt → Bool
  | .Pass _ => true
  | .Expr (.Constant (.str _) _ _) _ => true
  | _ => false
theorem isPas_eq {x : Stmt} (h : isPas x = true) : (∃ p, x = .Pass p) ∨ ∃ z j p q, x = .Expr (.Constant (.str z) j p) q := by
  unfold isPas at h
  split at h
  · exact .inl ⟨_, rfl⟩
  · exact .inr ⟨_, _, _, _, rfl⟩
  · cases h
def asRai : Stmt → Option (Str × Expr)
  | .Raise (some (.Call (.Name x _) [y] [] _)) none _ => some (x, y)
  | _ => none
theorem asRai_eq {x : Stmt} {n : Str} {y : Expr} (h : asRai x = some (n, y)) : ∃ p q r, x = .Raise (some (.Call (.Name n p) [y] [] q)) none r := by
  unfold asRai at h
  split at h
  · cases h; exact ⟨_, _, _, rfl⟩
  · cases h
def asTry : Stmt → Option (List Stmt × Str × Str × Str × Str)
  | .Try body [.ExceptHandler (some (.Name x _)) (some m) [.Assign [.Name y _] (.Name m' _) _] _] [] [] _ => some (body, x, m, y, m')
  | _ => none
theorem asTry_eq {z : Stmt} {b : List Stmt} {x m y m' : Str} (h : asTry z = some (b, x, m, y, m')) : ∃ np py pm p2 q r, z = .Try b [.ExceptHandler (some (.Name x np)) (some m) [.Assign [.Name y py] (.Name m' pm) p2] q] [] [] r := by
  unfold asTry at h
  split at h
  · cases h; exact ⟨_, _, _, _, _, _, rfl⟩
  · cases h
/-- an except suite of one statement: y = repr(m.value), or y = m.value -/
def asTryR : Stmt → Option (List Stmt × Str × Str × Str × Str × Str)
  | .Try body [.ExceptHandler (some (.Name x _)) (some m) [.Assign [.Name y _] (.Call (.Name r _) [.Attribute (.Name m' _) v _] [] _) _] _] [] [] _ => if v = "value" then some (body, x, m, y, m', r) else none
  | _ => none
theorem asTryR_eq {z : Stmt} {b : List Stmt} {x m y m' r : Str} (h : asTryR z = some (b, x, m, y, m', r)) : ∃ np py pm pv pr pc p2 q t, z = .Try b [.ExceptHandler (some (.Name x np)) (some m) [.Assign [.Name y py] (.Call (.Name r pr) [.Attribute (.Name m' pm) "value" pv] [] pc) p2] q] [] [] t := by
  unfold asTryR at h
  split at h
  · split at h
    · rename_i e
      subst e
      cases h
      exact ⟨_, _, _, _, _, _, _, _, _, rfl⟩
    · cases h
  · cases h
def asTryV : Stmt → Option (List Stmt × Str × Str × Str × Str)
  | .Try body [.ExceptHandler (some (.Name x _)) (some m) [.Assign [.Name y _] (.Attribute (.Name m' _) v _) _] _] [] [] _ => if v = "value" then some (body, x, m, y, m') else none
  | _ => none
theorem asTryV_eq {z : Stmt} {b : List Stmt} {x m y m' : Str} (h : asTryV z = some (b, x, m, y, m')) : ∃ np py pm pv p2 q t, z = .Try b [.ExceptHandler (some (.Name x np)) (some m) [.Assign [.Name y py] (.Attribute (.Name m' pm) "value" pv) p2] q] [] [] t := by
  unfold asTryV at h
  split at h
  · split at h
    · rename_i e
      subst e
      cases h
      exact ⟨_, _, _, _, _, _, _, rfl⟩
    · cases h
  · cases h
/-- what an except clause catches, what it lets through -/
def csB (T : Tab) (cs no : List Nat) (n : Str) : Bool := (List.range T.exc.length).any fun g => decide (T.exc[g]? = some n) && ((cs.all fun k => decide (k < T.exc.length) && (decide (k = g) || decide (g = 0))) && (no.all fun k => decide (k < T.exc.length) && !(decide (k = g) || decide (g = 0))))
/-- the names of such a clause -/
def tnB (se : SE) (i j : Nat) (n m y : Str) : Bool := decide (se.N[i]? = some m) && (decide (se.sc.names.lookup m = some .local) && (decide (se.N[j]? = some y) && (locB se y && (okNm m && (gloB se.sc n && okNm n)))))
def asLcP : Expr → Option (Expr × Expr × Expr × List Expr × Scope × Pos)
  | .ListComp x [⟨tg, it, ifs, 0⟩] sc p => some (x, tg, it, ifs, sc, p)
  | _ => none
theorem asLcP_eq {y x tg it : Expr} {ifs : List Expr} {sc : Scope} {p : Pos} (h : asLcP y = some (x, tg, it, ifs, sc, p)) : y = .ListComp x [⟨tg, it, ifs, 0⟩] sc p := by
  unfold asLcP at h
  split at h
  · cases h; rfl
  · cases h
def asNameP : Expr → Option (Str × Pos)
  | .Name x p => some (x, p)
  | _ => none
theorem asNameP_eq {x : Expr} {n : Str} {p : Pos} (h : asNameP x = some (n, p)) : x = .Name n p := by
  unfold asNameP at h
  split at h
  · cases h; rfl
  · cases h
/-- a list by a comprehension on the target's line -/
def okLcS (T : Tab) (se : SE) (n : Str) (p : Pos) (e : Ex) (y : Expr) : Bool := match e with
  | .lc a tg tp s i own => (match asLcP y with
    | some (_, _, _, _, sc, q) => lcB se.sc sc n p q && okE T se (.lc a tg tp s i own) y
    | none => false)
  | .mk (.lc a tg tp s i own) => (match asLcP y with
    | some (_, _, _, _, sc, q) => lcB se.sc sc n p q && okE T se (.lc a tg tp s i own) y
    | none => false)
  | _ => false
/-! ### the static look -/
def isKnN : Ex → Bool
  | .kn .non => true
  | _ => false
theorem isKnN_eq {e : Ex} (h : isKnN e = true) : e = .kn .non := by
  unfold isKnN at h
  split at h
  · rfl
  · cases h
def keepOf : Hn → Option Nat
  | .keep j => some j
  | _ => none
theorem keepOf_eq {h : Hn} {j : Nat} (e : keepOf h = some j) : h = .keep j := by
  unfold keepOf at e
  split at e
  · cases e; rfl
  · cases e
mutual
def okSt (T : Tab) : SE → Sm → Stmt → Bool
  | se, .set i e, x => match asAsg x with
    | some (t, y) => (match asNameP t with
      | some (n, p) => decide (se.N[i]? = some n) && (locB se n && ((swB se n p y && okE T se e y) || okLcS T se n p e y))
      | none => false)
    | none => false
  | se, .par is es, x => match asAsg x with
    | some (t, y) => (match asTup t, asTup y with
      | some ts, some vs => okPar se is ts vs && okEs T se es vs
      | _, _ => false)
    | none => false
  | se, .unp is e, x => match asAsg x with
    | some (t, y) => (match asTup t with
      | some ts => okNames se is ts && (!isComp y && (stoB se ts y && okE T se e y))
      | none => false)
    | none => false
  | se, .sti a i e, x => match asAsg x with
    | some (t, y) => (match asSub t with
      | some (a', i') => !isSlice i' && (!isComp y && (okE T se a a' && (okE T se i i' && okE T se e y)))
      | none => false)
    | none => false
  | se, .aug i op e, x => match asAug x with
    | some (t, o, y) => (match asName t with
      | some n => decide (se.N[i]? = some n) && (locB se n && (okIo op o && okE T se e y))
      | none => false)
    | none => false
  | se, .agi a i op e, x => match asAug x with
    | some (t, o, y) => (match asSub t with
      | some (a', i') => !isSlice i' && (okIo op o && (okE T se a a' && (okE T se i i' && okE T se e y)))
      | none => false)
    | none => false
  | se, .exp e, x => match asExp x with
    | some y => !isComp y && okE T se e y
    | none => false
  | se, .ret e, x => match asRet x with
    | some (some y) => okE T se e y
    | some none => isKnN e
    | none => false
  | se, .ife t a b, x => match asIfS x with
    | some (t', a', b') => okE T se t t' && (okSts T se a a' && okSts T se b b')
    | none => false
  | se, .for_ tg tp s b, x => match asFor x with
    | some (t', i', b') => okG se tg tp t' && (notSet i' && (okS T se t' s i' && okSts T se b b'))
    | none => false
  | se, .whl t b, x => match asWhl x with
    | some (t', b') => okE T se t t' && okSts T se b b'
    | none => false
  | _, .brk, x => isBrk x
  | _, .cnt, x => isCnt x
  | _, .pas, x => isPas x
  | se, .rai k e, x => match asRai x with
    | some (n, y) => decide (T.exc[k]? = some n) && (gloB se.sc n && (okNm n && (!isStar y && okE T se e y)))
    | none => false
  | se, .tri b cs no i h, x => match h with
    | .keep j => (match asTry x with
      | some (b', n, m, y, m') => decide (m = m') && (decide (se.N[i]? = some m) && (decide (se.sc.names.lookup m = some .local) && (decide (se.N[j]? = some y) && (locB se y && (okNm m && (gloB se.sc n && (okNm n && (okSts T se b b' &&
        ((List.range T.exc.length).any fun g => decide (T.exc[g]? = some n) && ((cs.all fun k => decide (k < T.exc.length) && (decide (k = g) || decide (g = 0))) && (no.all fun k => decide (k < T.exc.length) && !(decide (k = g) || decide (g = 0)))))))))))))
      | none => false)
    | .put j true => (match asTryR x with
      | some (b', n, m, y, m', r) => decide (m = m') && (decide (r = "repr") && (gloB se.sc "repr" && (tnB se i j n m y && (okSts T se b b' && csB T cs no n))))
      | none => false)
    | .put j false => (match asTryV x with
      | some (b', n, m, y, m') => decide (m = m') && (tnB se i j n m y && (okSts T se b b' && csB T cs no n))
      | none => false)
    | .add _ _ => false
  | _, .mkl _, _ => false
def okSts (T : Tab) : SE → Sms → List Stmt → Bool
  | _, .nil, xs => xs.isEmpty
  | se, .cons s ss, xs => match xs with
    | x :: r => okSt T se s x && okSts T se ss r
    | [] => false
end
variable [Glo]
/-- a body's context, whose exceptions' classes are known -/
structure GT (T : Tab) (C : Nat → Addr) (W : WX) (c : Cxt) (n : Nat) (se : SE) (X : Cx) : Prop extends GX T C W c n se X where
  tk : Takes X W
  own : PassesOwn (model X.prog X.w) X.A X.env X.xe
  stk : X.stack = X.env :: X.outer
  frm : X.env.frame = some X.env.locals
  kd : se.sc.kind = .function
  hol : ∀ (k : Nat) (x : Str), T.exc[k]? = some x → HoleC X.prog X.K (Glo.cl k)
  sup : X.mg "super" = none
  exm : ∀ g k, g < T.exc.length → k < T.exc.length → PySem.W.exmOne X.K (.ref (Glo.cl g)) (.ref (Glo.cl k)) = some (decide (g = k) || decide (k = 0))
section
variable {T : Tab} {C : Nat → Addr} {W : WX} {c : Cxt} {n : Nat} {se : SE} {X : Cx}
theorem GT.gs (G : GT T C W c n se X) : GS T C W c n se X :=
  { G with mkx := fun k x e g1 g2 => mkx_of (G.hol k x e) (G.exc k x e).1 G.sup G.room (gloB_ok (by rw [G.sc]; exact g1)) (okNm_ok g2).1 }
theorem GT.tr {W' : WX} {pn : List (Addr × Obj)} {xe : Value → Shared → Prop} (G : GT T C W c n se X) (tk : Takes (X.tr pn xe) W') (own : PassesOwn (model X.prog X.w) X.A X.env xe) : GT T C W' c n se (X.tr pn xe) where
  N := G.N
  nd := G.nd
  sc := G.sc
  fn := G.fn
  calm := G.calm
  gd := G.gd
  room := G.room
  bl := G.bl
  con := G.con
  nf := G.nf
  fns := G.fns
  nx := G.nx
  exc := G.exc
  exk := G.exk
  sp := G.sp
  lam := G.lam
  lkT := G.lkT
  mkf := G.mkf
  ps := fun σ => passAt tk σ
  tk := tk
  own := own
  stk := G.stk
  frm := G.frm
  kd := G.kd
  hol := G.hol
  sup := G.sup
  exm := G.exm
theorem slo_keep {F : Fr} {H : Hp} {ρ : Sl} {σ : L2.St} {i j k : Nat} {d : D} {v : V} {a dx : Addr} (hk : k < Glo.nx) (hl : Slo F H ρ σ) (hs : Sto F H) (ha : H a = none) (hd : H dx = some (.xd [(("value" : Str), v)])) (hu : ¬ F.un dx) (hr : Rep F H d v) (hj : j < ρ.length) :
    Slo F (upd H a (ExAt (Glo.cl k) dx a)) ((ρ.set j (some (.exv k d))).set i none) (((σ.set i (some (.ref a))).set j (some (.ref a))).set i none) := by
  have x := Ext.fresh F (ExAt (Glo.cl k) dx a) ha
  refine ⟨by simp [hl.1], fun p e hp => ?_⟩
  by_cases h1 : i = p
  · subst h1
    rw [List.getElem?_set] at hp
    split at hp
    · split at hp <;> cases hp
    · exact absurd rfl (by assumption)
  · rw [List.getElem?_set, if_neg h1] at hp
    rw [List.getElem?_set, if_neg h1]
    by_cases h2 : j = p
    · subst h2
      rw [List.getElem?_set, if_pos rfl, if_pos hj] at hp
      cases hp
      rw [List.getElem?_set, if_pos rfl, if_pos (by rw [List.length_set, ← hl.1]; exact hj)]
      exact ⟨_, rfl, hk, a, dx, v, rfl, hs.nun ha, upd_same, hu, by rw [upd_ne (ne_of_none hd ha)]; exact hd, hr.ext x⟩
    · rw [List.getElem?_set, if_neg h2] at hp
      rw [List.getElem?_set, if_neg h2, List.getElem?_set, if_neg h1]
      obtain ⟨w, e1, e2⟩ := hl.2 p e hp
      exact ⟨w, e1, e2.ext x⟩
end
/-! ### an except clause that puts the value into a slot -/
theorem slo_put {F F' : Fr} {H H' : Hp} {ρ : Sl} {σ : L2.St} {i j : Nat} {x : D} {w v : V} (hl : Slo F H ρ σ) (xt : Ext F H F' H') (hr : Rep F' H' x w) (hj : j < ρ.length) : Slo F' H' ((ρ.set j (some x)).set i none) (((σ.set i (some v)).set j (some w)).set i none) := by
  refine ⟨by simp [hl.1], fun p e hp => ?_⟩
  by_cases h1 : i = p
  · subst h1
    rw [List.getElem?_set] at hp
    split at hp
    · split at hp <;> cases hp
    · exact absurd rfl (by assumption)
  · rw [List.getElem?_set, if_neg h1] at hp
    rw [List.getElem?_set, if_neg h1]
    by_cases h2 : j = p
    · subst h2
      rw [List.getElem?_set, if_pos rfl, if_pos hj] at hp
      cases hp
      rw [List.getElem?_set, if_pos rfl, if_pos (by rw [List.length_set, ← hl.1]; exact hj)]
      exact ⟨_, rfl, hr⟩
    · rw [List.getElem?_set, if_neg h2] at hp
      rw [List.getElem?_set, if_neg h2, List.getElem?_set, if_neg h1]
      obtain ⟨w, e1, e2⟩ := hl.2 p e hp
      exact ⟨w, e1, e2.ext xt⟩
theorem tnB_ok {se : SE} {i j : Nat} {n m y : Str} (h : tnB se i j n m y = true) : se.N[i]? = some m ∧ se.sc.names.lookup m = some .local ∧ se.N[j]? = some y ∧ locB se y = true ∧ okNm m = true ∧ gloB se.sc n = true ∧ okNm n = true := by
  unfold tnB at h
  simp only [Bool.and_eq_true, decide_eq_true_eq] at h
  exact h
/-- what was caught, as the evaluator sees it in the suite -/
theorem exv_new {F : Fr} {H : Hp} {k : Nat} {d : D} {v : V} {a dx : Addr} (hk : k < Glo.nx) (hs : Sto F H) (ha : H a = none) (hd : H dx = some (.xd [(("value" : Str), v)])) (hu : ¬ F.un dx) (hr : Rep F H d v) :
    Ext F H F (upd H a (ExAt (Glo.cl k) dx a)) ∧ Sto F (upd H a (ExAt (Glo.cl k) dx a)) ∧ Rep F (upd H a (ExAt (Glo.cl k) dx a)) (.exv k d) (.ref a) := by
  have x := Ext.fresh F (ExAt (Glo.cl k) dx a) ha
  exact ⟨x, hs.fresh _ ha, hk, a, dx, v, rfl, hs.nun ha, upd_same, hu, by rw [upd_ne (ne_of_none hd ha)]; exact hd, hr.ext x⟩
section
variable {C : Nat → Addr} {W : WX}
theorem put_V {F : Fr} {H : Hp} {ρ : Sl} {σ : L2.St} {i j k : Nat} {d : D} {v : V} {a dx : Addr} (hk : k < Glo.nx) (hl : Slo F H ρ σ) (hs : Sto F H) (ha : H a = none) (hd : H dx = some (.xd [(("value" : Str), v)])) (hu : ¬ F.un dx) (hr : Rep F H d v) (D : Ends) (w : AftE C W F H (hnd (.put j false) i k d ρ F.st) D) :
    tAsg (tHeld i) (gName j) { nx := fun σ' H' => D.nx (σ'.set i none) H', rt := fun _ _ => False } (σ.set i (some (.ref a))) (upd H a (ExAt (Glo.cl k) dx a)) := by
  obtain ⟨x1, s1, r1⟩ := exv_new hk hs ha hd hu hr
  have w : AftE C W F H (if decide (i < ρ.length) && decide (j < ρ.length) && decide (i ≠ j) then .nx ((ρ.set j (some d)).set i none) F.st else .bad) D := w
  split at w
  · rename_i e
    simp only [Bool.and_eq_true, decide_eq_true_eq] at e
    refine ⟨F, k, d, .ref a, ?_, s1, r1, fun u ru => ?_⟩
    · rw [List.getElem?_set, if_pos rfl, if_pos (by rw [← hl.1]; exact e.1.1)]
    · exact w F _ _ rfl x1 s1 (slo_put hl x1 ru e.1.2)
  · exact w.elim
theorem put_R {F : Fr} {H : Hp} {ρ : Sl} {σ : L2.St} {i j k : Nat} {d : D} {v : V} {a dx : Addr} (hk : k < Glo.nx) (hl : Slo F H ρ σ) (hs : Sto F H) (ha : H a = none) (hd : H dx = some (.xd [(("value" : Str), v)])) (hu : ¬ F.un dx) (hr : Rep F H d v) (D : Ends) (w : AftE C W F H (hnd (.put j true) i k d ρ F.st) D) :
    tAsg (tCB (rBlt .repr) (tCons (tHeld i) tNil)) (gName j) { nx := fun σ' H' => D.nx (σ'.set i none) H', rt := fun _ _ => False } (σ.set i (some (.ref a))) (upd H a (ExAt (Glo.cl k) dx a)) := by
  obtain ⟨x1, s1, r1⟩ := exv_new hk hs ha hd hu hr
  cases hq : reprD F.st d with
  | none =>
    have w : AftE C W F H (match (reprD F.st d).map MP.D.str with
      | some x => if decide (i < ρ.length) && decide (j < ρ.length) && decide (i ≠ j) then .nx ((ρ.set j (some x)).set i none) F.st else .bad
      | none => .bad) D := w
    rw [hq] at w
    exact w.elim
  | some z =>
    have w : AftE C W F H (match (reprD F.st d).map MP.D.str with
      | some x => if decide (i < ρ.length) && decide (j < ρ.length) && decide (i ≠ j) then .nx ((ρ.set j (some x)).set i none) F.st else .bad
      | none => .bad) D := w
    rw [hq] at w
    have w : AftE C W F H (if decide (i < ρ.length) && decide (j < ρ.length) && decide (i ≠ j) then .nx ((ρ.set j (some (.str z))).set i none) F.st else .bad) D := w
    split at w
    · rename_i e
      simp only [Bool.and_eq_true, decide_eq_true_eq] at e
      refine ⟨F, k, d, .ref a, ?_, s1, r1, fun u ru => ?_⟩
      · rw [List.getElem?_set, if_pos rfl, if_pos (by rw [← hl.1]; exact e.1.1)]
      · refine ⟨F, [d], .str z, s1, ⟨u, [], rfl, ru, rfl⟩, by show (reprD F.st d).map _ = _; rw [hq]; rfl, fun H' v' x2 s2 r2 => ?_⟩
        exact w F _ _ rfl (x1.trans x2) s2 (slo_put hl (x1.trans x2) r2 e.1.2)
    · exact w.elim
end
section
variable {T : Tab} {C : Nat → Addr} {W : WX} {c : Cxt} {n : Nat} {se : SE} {X : Cx}
theorem tri_gen (G : GT T C W c n se X) {b : Sms} {cs no : List Nat} {i : Nat} {h : Hn} {b' : List Stmt} {n' m : Str} {np q t : Pos} {b0 : Stmt} {bs : List Stmt} {ts : TS} (h2 : se.N[i]? = some m) (h3 : se.sc.names.lookup m = some .local) (h6 : okNm m = true) (h7 : gloB se.sc n' = true) (h8 : okNm n' = true) (h10 : csB T cs no n' = true)
    (hb : ∀ (W' : WX) (pn : List (Addr × Obj)) (xe : Value → Shared → Prop), Takes (X.tr pn xe) W' → PassesOwn (model X.prog X.w) X.A X.env xe → PSs (X.tr pn xe) b' (stsT C W' c b)) (hsu : ∀ (a : Addr) (pn : List (Addr × Obj)), PSs (X.suite a pn) (b0 :: bs) ts)
    (hp : ∀ {F : Fr} {H : Hp} {ρ : Sl} {σ : L2.St} {k : Nat} {d : D} {v : V} {a dx : Addr}, k < Glo.nx → Slo F H ρ σ → Sto F H → H a = none → H dx = some (.xd [(("value" : Str), v)]) → ¬ F.un dx → Rep F H d v → ∀ D : Ends, AftE C W F H (hnd h i k d ρ F.st) D → ts { nx := fun σ' H' => D.nx (σ'.set i none) H', rt := fun _ _ => False } (σ.set i (some (.ref a))) (upd H a (ExAt (Glo.cl k) dx a))) :
    PS X (.Try b' [.ExceptHandler (some (.Name n' np)) (some m) (b0 :: bs) q] [] [] t) (stT C W c (.tri b cs no i h)) := by
  obtain ⟨g, _, h10⟩ := List.any_eq_true.mp h10
  simp only [Bool.and_eq_true, decide_eq_true_eq, List.all_eq_true] at h10
  obtain ⟨hg, hcs, hno⟩ := h10
  have hgl : g < T.exc.length := (List.getElem?_eq_some_iff.mp hg).1
  refine imp_s (ps_tryG (W := W) (cl := .ref (Glo.cl g)) (i := i) (ts := ts) (tb := fun W' => stsT C W' c b) G.stk G.frm (by rw [G.N]; exact G.nd) (by rw [G.N]; exact h2) (by show X.env.scope.names.lookup m = _; rw [G.sc]; exact h3) hsu
    ⟨gloB_ok (by rw [G.sc]; exact h7), (okNm_ok h8).1, .inl (G.exc g _ hg).1⟩ G.tk hb) fun D σ H ⟨F, ρ, hs, hl, w⟩ => ⟨F, ρ, hs, hl, ?_⟩
  rw [ex] at w
  cases hr : exs c b ρ F.st with
  | nx ρ1 st => rw [hr] at w; exact w
  | bk ρ1 st => rw [hr] at w; exact w
  | ct ρ1 st => rw [hr] at w; exact w
  | rt d st => rw [hr] at w; exact w
  | bad => rw [hr] at w; exact w
  | exc k d ρ1 st =>
    rw [hr] at w
    intro F' H' σ' dx v est x s' l' hdx hun hn hrep
    have w : AftE C W F H (if cs.contains k = true then hnd h i k d ρ1 st else if no.contains k = true then .exc k d ρ1 st else .bad) D := w
    by_cases hc : cs.contains k = true
    · rw [if_pos hc] at w
      have hk := hcs k (by simpa using hc)
      simp only [Bool.and_eq_true, Bool.or_eq_true, decide_eq_true_eq] at hk
      obtain ⟨hk1, hk2⟩ := hk
      obtain ⟨_, hC, _⟩ := G.exc k _ (List.getElem?_eq_getElem hk1)
      refine ⟨true, ?_, fun _ => ⟨Glo.cl k, dx, by rw [hC], rfl, fun a ha => ?_⟩, fun z => nomatch z⟩
      · rw [hC, G.exm k g hk1 hgl]
        rcases hk2 with e | e <;> simp [e]
      · subst est
        exact hp (by rw [G.nx]; exact hk1) l' s' ha hdx hun hrep D (w.later x)
    · rw [if_neg hc] at w
      by_cases hc2 : no.contains k = true
      · rw [if_pos hc2] at w
        have hk := hno k (by simpa using hc2)
        simp only [Bool.and_eq_true, Bool.not_eq_true', Bool.or_eq_false_iff, decide_eq_true_eq, decide_eq_false_iff_not] at hk
        obtain ⟨hk1, hk2, hk3⟩ := hk
        obtain ⟨_, hC, _⟩ := G.exc k _ (List.getElem?_eq_getElem hk1)
        exact ⟨false, by rw [hC, G.exm k g hk1 hgl]; simp [hk2, hk3], (fun z => nomatch z), fun _ => w F' H' σ' dx v est x s' l' hdx hun hn hrep⟩
      · rw [if_neg hc2] at w
        exact w.elim
end
section
variable {T : Tab} {C : Nat → Addr} {c : Cxt} {n : Nat} {se : SE}
theorem lcS_ok {W : WX} {X : Cx} (G : GT T C W c n se X) {i : Nat} {x : Str} {p pos : Pos} {e : Ex} {y : Expr} (hi : se.N[i]? = some x) (h : okLcS T se x p e y = true) : PS X (.Assign [.Name x p] y pos) (stT C W c (.set i e)) := by
  have tgs : ∀ {a : Ex} {tg : List Nat} {tp : Bool} {s : Sr} {o : Ox} {own : List Nat} {y' tg' it : Expr} {ifs : List Expr} {sc : Scope} {q : Pos}, okE T se (.lc a tg tp s o own) (.ListComp y' [⟨tg', it, ifs, 0⟩] sc q) = true → ∀ j ∈ tg, j ∈ own := by
    intro a tg tp s o own y' tg' it ifs sc q h j hj
    simp only [okE, asLc, Bool.and_eq_true, decide_eq_true_eq] at h
    obtain ⟨_, _, _, _, _, _, _, h7⟩ := h
    rw [List.all_eq_true] at h7
    simpa using h7 j hj
  unfold okLcS at h
  split at h
  · split at h
    · rename_i hm
      rw [asLcP_eq hm] at h ⊢
      rw [Bool.and_eq_true] at h
      exact ps_setLcF G.gs hi h.1 h.2 fun σ H Q w => tLc_of (tgs h.2) w
    · cases h
  · split at h
    · rename_i hm
      rw [asLcP_eq hm] at h ⊢
      rw [Bool.and_eq_true] at h
      exact ps_setLcF G.gs hi h.1 h.2 fun σ H Q w => mkLc_of (tgs h.2) w
    · cases h
  · cases h
mutual
theorem okSt_ok : ∀ (s : Sm) {W : WX} {X : Cx} {x : Stmt}, GT T C W c n se X → okSt T se s x = true → PS X x (stT C W c s)
  | .set i e, W, X, x, G, h => by
    rw [okSt] at h
    split at h
    · rename_i t y hm
      obtain ⟨q, rfl⟩ := asAsg_eq hm
      split at h
      · rename_i m p hm
        have := asNameP_eq hm
        subst this
        simp only [Bool.and_eq_true, Bool.or_eq_true, decide_eq_true_eq] at h
        obtain ⟨h1, h2, h3⟩ := h
        rcases h3 with h3 | h3
        · exact ps_setF G.gs h1 h2 h3.1 (okE_ok e G.toGX h3.2).v
        · exact lcS_ok G h1 h3
      · cases h
    · cases h
  | .par is es, W, X, x, G, h => by
    rw [okSt] at h
    split at h
    · rename_i t y hm
      obtain ⟨q, rfl⟩ := asAsg_eq hm
      split at h
      · rename_i ts vs h1 h2
        obtain ⟨_, _, rfl⟩ := asTup_eq h1
        obtain ⟨_, _, rfl⟩ := asTup_eq h2
        rw [Bool.and_eq_true] at h
        exact ps_parF G.gs h.1 (okEs_ok es G.toGX h.2)
      · cases h
    · cases h
  | .unp is e, W, X, x, G, h => by
    rw [okSt] at h
    split at h
    · rename_i t y hm
      obtain ⟨q, rfl⟩ := asAsg_eq hm
      split at h
      · rename_i ts h1
        obtain ⟨_, _, rfl⟩ := asTup_eq h1
        simp only [Bool.and_eq_true, Bool.not_eq_true'] at h
        obtain ⟨h1, h2, h3, h4⟩ := h
        exact ps_unpF G.gs h1 h2 h3 (okE_ok e G.toGX h4).v
      · cases h
    · cases h
  | .sti a i e, W, X, x, G, h => by
    rw [okSt] at h
    split at h
    · rename_i t y hm
      obtain ⟨q, rfl⟩ := asAsg_eq hm
      split at h
      · rename_i a' i' h1
        obtain ⟨_, rfl⟩ := asSub_eq h1
        simp only [Bool.and_eq_true, Bool.not_eq_true'] at h
        obtain ⟨h1, h2, h3, h4, h5⟩ := h
        exact ps_stiF G.gs h1 h2 (okE_ok a G.toGX h3).v (okE_ok i G.toGX h4).v (okE_ok e G.toGX h5).v
      · cases h
    · cases h
  | .aug i op e, W, X, x, G, h => by
    rw [okSt] at h
    split at h
    · rename_i t o y hm
      obtain ⟨q, rfl⟩ := asAug_eq hm
      split at h
      · rename_i m h1
        obtain ⟨_, rfl⟩ := asName_eq h1
        simp only [Bool.and_eq_true, decide_eq_true_eq] at h
        obtain ⟨h1, h2, h3, h4⟩ := h
        exact ps_augF G.gs h1 h2 h3 (okE_ok e G.toGX h4).v
      · cases h
    · cases h
  | .agi a i op e, W, X, x, G, h => by
    rw [okSt] at h
    split at h
    · rename_i t o y hm
      obtain ⟨q, rfl⟩ := asAug_eq hm
      split at h
      · rename_i a' i' h1
        obtain ⟨_, rfl⟩ := asSub_eq h1
        simp only [Bool.and_eq_true, Bool.not_eq_true'] at h
        obtain ⟨h1, h2, h3, h4, h5⟩ := h
        exact ps_agiF G.gs h1 h2 (okE_ok a G.toGX h3).v (okE_ok i G.toGX h4).v (okE_ok e G.toGX h5).v
      · cases h
    · cases h
  | .exp e, W, X, x, G, h => by
    rw [okSt] at h
    split at h
    · rename_i y hm
      obtain ⟨q, rfl⟩ := asExp_eq hm
      simp only [Bool.and_eq_true, Bool.not_eq_true'] at h
      exact ps_expF G.gs h.1 (okE_ok e G.toGX h.2).v
    · cases h
  | .ret e, W, X, x, G, h => by
    rw [okSt] at h
    split at h
    · rename_i y hm
      obtain ⟨q, rfl⟩ := asRet_eq hm
      exact ps_retF (okE_ok e G.toGX h).v
    · rename_i hm
      obtain ⟨q, rfl⟩ := asRet_eq hm
      rw [isKnN_eq h]
      exact ps_retN0
    · cases h
  | .ife t a b, W, X, x, G, h => by
    rw [okSt] at h
    split at h
    · rename_i t' a' b' hm
      obtain ⟨q, rfl⟩ := asIfS_eq hm
      simp only [Bool.and_eq_true] at h
      exact ps_ifF (okE_ok t G.toGX h.1).t (okSts_ok a G h.2.1) (okSts_ok b G h.2.2)
    · cases h
  | .for_ tg tp s b, W, X, x, G, h => by
    rw [okSt] at h
    split at h
    · rename_i t' i' b' hm
      obtain ⟨q, rfl⟩ := asFor_eq hm
      simp only [Bool.and_eq_true] at h
      obtain ⟨h1, h2, h3, h4⟩ := h
      exact ps_forF G.gs h1 h2 (okS_ok s G.toGX h3) (okSts_ok b G h4)
    · cases h
  | .whl t b, W, X, x, G, h => by
    rw [okSt] at h
    split at h
    · rename_i t' b' hm
      obtain ⟨q, rfl⟩ := asWhl_eq hm
      simp only [Bool.and_eq_true] at h
      exact ps_whlF G.gs (okE_ok t G.toGX h.1).t (okSts_ok b G h.2)
    · cases h
  | .brk, W, X, x, G, h => by
    rw [okSt] at h
    obtain ⟨q, rfl⟩ := isBrk_eq h
    exact ps_brkF
  | .cnt, W, X, x, G, h => by
    rw [okSt] at h
    obtain ⟨q, rfl⟩ := isCnt_eq h
    exact ps_cntF
  | .pas, W, X, x, G, h => by
    rw [okSt] at h
    rcases isPas_eq h with ⟨q, rfl⟩ | ⟨_, _, _, _, rfl⟩
    · exact ps_pasF
    · exact ps_docF
  | .rai k e, W, X, x, G, h => by
    rw [okSt] at h
    split at h
    · rename_i m y hm
      obtain ⟨_, _, _, rfl⟩ := asRai_eq hm
      simp only [Bool.and_eq_true, Bool.not_eq_true', decide_eq_true_eq] at h
      obtain ⟨h1, h2, h3, h4, h5⟩ := h
      exact ps_raiF G.gs h1 h2 h3 (okE_ok e G.toGX h5).v h4
    · cases h
  | .tri b cs no i (.put j r), W, X, x, G, h => by
    cases r with
    | true =>
      rw [okSt] at h
      split at h
      · rename_i b' n' m y m' r hm
        obtain ⟨_, _, _, _, _, _, _, _, _, rfl⟩ := asTryR_eq hm
        simp only [Bool.and_eq_true, decide_eq_true_eq] at h
        obtain ⟨h1, h2, h3, h4, h5, h6⟩ := h
        subst h1 h2
        obtain ⟨q1, q2, q3, q4, q5, q6, q7⟩ := tnB_ok h4
        obtain ⟨l1, l2⟩ := locB_ok G.toGX.sx q4
        exact tri_gen G q1 q2 q5 q6 q7 h6 (fun W' pn xe tk' own' => okSts_ok b (G.tr tk' own') h5)
          (fun a pn => ps_putR G.toGX (by rw [G.N]; exact q1) (by show X.env.scope.names.lookup m = _; rw [G.sc]; exact q2) (okNm_ok q5).1 (okNm_ok q5).2.1 rfl (by rw [G.N]; exact q3) l1 l2 h3)
          (fun hk hl hs ha hd hu hr D w => put_R hk hl hs ha hd hu hr D w)
      · cases h
    | false =>
      rw [okSt] at h
      split at h
      · rename_i b' n' m y m' hm
        obtain ⟨_, _, _, _, _, _, _, rfl⟩ := asTryV_eq hm
        simp only [Bool.and_eq_true, decide_eq_true_eq] at h
        obtain ⟨h1, h4, h5, h6⟩ := h
        subst h1
        obtain ⟨q1, q2, q3, q4, q5, q6, q7⟩ := tnB_ok h4
        obtain ⟨l1, l2⟩ := locB_ok G.toGX.sx q4
        exact tri_gen G q1 q2 q5 q6 q7 h6 (fun W' pn xe tk' own' => okSts_ok b (G.tr tk' own') h5)
          (fun a pn => ps_putV G.toGX (by rw [G.N]; exact q1) (by show X.env.scope.names.lookup m = _; rw [G.sc]; exact q2) (okNm_ok q5).1 (okNm_ok q5).2.1 rfl (by rw [G.N]; exact q3) l1 l2)
          (fun hk hl hs ha hd hu hr D w => put_V hk hl hs ha hd hu hr D w)
      · cases h
  | .tri b cs no i (.add j r), W, X, x, G, h => by
    rw [okSt] at h
    cases h
  | .tri b cs no i (.keep j), W, X, x, G, h => by
    rw [okSt] at h
    split at h
    · rename_i b' m0 m y m' hm
      obtain ⟨_, _, _, _, _, _, rfl⟩ := asTry_eq hm
      simp only [Bool.and_eq_true, Bool.not_eq_true', decide_eq_true_eq] at h
      obtain ⟨h1, h2, h3, h4, h5, h6, h7, h8, h9, h10⟩ := h
      subst h1
      obtain ⟨g, _, h10⟩ := List.any_eq_true.mp h10
      simp only [Bool.and_eq_true, decide_eq_true_eq, List.all_eq_true] at h10
      obtain ⟨hg, hcs, hno⟩ := h10
      have hgl : g < T.exc.length := (List.getElem?_eq_some_iff.mp hg).1
      obtain ⟨l1, l2⟩ := locB_ok G.toGX.sx h5
      refine imp_s (ps_tryKeep (W := W) (cl := .ref (Glo.cl g)) (i := i) (j := j) (tb := fun W' => stsT C W' c b) G.stk G.frm (by rw [G.N]; exact G.nd) (by rw [G.N]; exact h2) (by show X.env.scope.names.lookup m = _; rw [G.sc]; exact h3) (by rw [G.N]; exact h4) l1 l2
        (by rw [G.N]; exact (List.getElem?_eq_some_iff.mp h2).1) (okNm_ok h6).1 (okNm_ok h6).2.1 ⟨gloB_ok (by rw [G.sc]; exact h7), (okNm_ok h8).1, .inl (G.exc g _ hg).1⟩ G.tk (fun W' pn xe tk' own' => okSts_ok b (G.tr tk' own') h9)) fun D σ H ⟨F, ρ, hs, hl, w⟩ => ⟨F, ρ, hs, hl, ?_⟩
      rw [ex] at w
      cases hr : exs c b ρ F.st with
      | nx ρ1 st => rw [hr] at w; exact w
      | bk ρ1 st => rw [hr] at w; exact w
      | ct ρ1 st => rw [hr] at w; exact w
      | rt d st => rw [hr] at w; exact w
      | bad => rw [hr] at w; exact w
      | exc k d ρ1 st =>
        rw [hr] at w
        intro F' H' σ' dx v est x s' l' hdx hun hn hrep
        have w : AftE C W F H (if cs.contains k = true then hnd (.keep j) i k d ρ1 st else if no.contains k = true then .exc k d ρ1 st else .bad) D := w
        by_cases hc : cs.contains k = true
        · rw [if_pos hc] at w
          have hk := hcs k (by simpa using hc)
          simp only [Bool.and_eq_true, Bool.or_eq_true, decide_eq_true_eq] at hk
          obtain ⟨hk1, hk2⟩ := hk
          obtain ⟨_, hC, _⟩ := G.exc k _ (List.getElem?_eq_getElem hk1)
          refine ⟨true, ?_, fun _ => ⟨Glo.cl k, dx, by rw [hC], rfl, fun a ha => ?_⟩, fun z => nomatch z⟩
          · rw [hC, G.exm k g hk1 hgl]
            rcases hk2 with e | e <;> simp [e]
          · have w : AftE C W F H (if (decide (i < ρ1.length) && decide (j < ρ1.length) && decide (i ≠ j)) = true then .nx ((ρ1.set j (some (.exv k d))).set i none) st else .bad) D := w
            split at w
            · rename_i e
              simp only [Bool.and_eq_true, decide_eq_true_eq] at e
              exact w F' _ _ est (x.trans (Ext.fresh F' _ ha)) (s'.fresh _ ha) (slo_keep (by rw [G.nx]; exact hk1) l' s' ha hdx hun hrep e.1.2)
            · exact w.elim
        · rw [if_neg hc] at w
          by_cases hc2 : no.contains k = true
          · rw [if_pos hc2] at w
            have hk := hno k (by simpa using hc2)
            simp only [Bool.and_eq_true, Bool.not_eq_true', Bool.or_eq_false_iff, decide_eq_true_eq, decide_eq_false_iff_not] at hk
            obtain ⟨hk1, hk2, hk3⟩ := hk
            obtain ⟨_, hC, _⟩ := G.exc k _ (List.getElem?_eq_getElem hk1)
            exact ⟨false, by rw [hC, G.exm k g hk1 hgl]; simp [hk2, hk3], (fun z => nomatch z), fun _ => w F' H' σ' dx v est x s' l' hdx hun hn hrep⟩
          · rw [if_neg hc2] at w
            exact w.elim
    · cases h
  | .mkl js, W, X, x, G, h => by
    simp [okSt] at h
theorem okSts_ok : ∀ (ss : Sms) {W : WX} {X : Cx} {xs : List Stmt}, GT T C W c n se X → okSts T se ss xs = true → PSs X xs (stsT C W c ss)
  | .nil, W, X, xs, G, h => by
    rw [okSts] at h
    cases xs with
    | nil => exact pss_nilF
    | cons _ _ => cases h
  | .cons s ss, W, X, xs, G, h => by
    cases xs with
    | nil => rw [okSts] at h; cases h
    | cons x r =>
      rw [okSts, Bool.and_eq_true] at h
      exact pss_consF (okSt_ok s G h.1) (okSts_ok ss G h.2)
end
end
end MP
end
section
set_option maxRecDepth 100000
set_option maxHeartbeats 4000000
/-! MPMkl: a def that makes a list of lambdas and gives it away. -/
namespace MP
open PySem L2 PyProof.Rows
variable [Glo]
def asLst1 : Expr → Option Expr
  | .List [x] _ => some x
  | _ => none
theorem asLst1_eq {x y : Expr} (h : asLst1 x = some y) : ∃ p, x = .List [y] p := by
  unfold asLst1 at h
  split at h
  · cases h
    exact ⟨_, rfl⟩
  · cases h
def asApp : Stmt → Option (Str × Expr)
  | .Expr (.Call (.Attribute (.Name a _) m ap) [x] [] cp) _ => if m = ("append" : Str) ∧ (ap.endLine == cp.line) = true then some (a, x) else none
  | _ => none
theorem asApp_eq {x : Stmt} {a : Str} {y : Expr} (h : asApp x = some (a, y)) : ∃ p ap cp q, x = .Expr (.Call (.Attribute (.Name a p) "append" ap) [y] [] cp) q ∧ (ap.endLine == cp.line) = true := by
  unfold asApp at h
  split at h
  · split at h
    · rename_i e
      obtain ⟨rfl, e⟩ := e
      cases h
      exact ⟨_, _, _, _, rfl, e⟩
    · cases h
  · cases h
def isRetN (a : Str) : Stmt → Bool
  | .Return (some (.Name b _)) _ => decide (a = b)
  | _ => false
theorem isRetN_eq {a : Str} {x : Stmt} (h : isRetN a x = true) : ∃ p q, x = .Return (some (.Name a p)) q := by
  unfold isRetN at h
  split at h
  · have h := of_decide_eq_true h
    subst h
    exact ⟨_, _, rfl⟩
  · cases h
def okApps (T : Tab) (se : SE) (ia : Nat) (a : Str) : List (Nat × List Nat) → List Stmt → Bool
  | [], [r] => isRetN a r
  | q :: js, x :: xs => (match asApp x with
    | some (b, y) => decide (b = a) && (okLam T se q.1 q.2 y && (!q.2.contains ia && okApps T se ia a js xs))
    | none => false)
  | _, _ => false
def okMk (T : Tab) (se : SE) : Sms → List Stmt → Bool
  | .cons (.mkl (q :: js)) .nil, x :: xs => (match asAsg x with
    | some (t, y) => (match asName t, asLst1 y with
      | some a, some z => decide (se.N[se.N.idxOf a]? = some a) && (locB se a && (visB se.sc a && (okNm a && (decide (js.length < 60) && (okLam T se q.1 q.2 z && (!q.2.contains (se.N.idxOf a) && okApps T se (se.N.idxOf a) a js xs))))))
      | _, _ => false)
    | none => false)
  | _, _ => false
section
variable {T : Tab} {C : Nat → Addr} {W : WX} {c : Cxt} {n : Nat} {se : SE} {X : Cx}
/-- the object at f is the j-th lambda, made here -/
def FO (X : Cx) (j : Nat) (H : Hp) (f : Addr) : Prop := ∃ (c' : Addr) (ps : Arguments) (b : Expr) (sc : Scope) (pm ctv : Value), Glo.lk j ps b sc = true ∧ H f = some (.frz (PySem.W.kla_obj "<lambda>" (X.env.qual ++ "<lambda>") ps b sc (cloFrom X.env.cells sc.names []) pm c' ctv) (.own f)) ∧
  H c' = some (LamX.CodeO c' (X.env.qual ++ "<lambda>")) ∧ (∀ y ∈ sc.names, y.2 = .free → ∃ c, X.env.cells.lookup y.1 = some c) ∧ (∀ y ∈ Glo.ln j, X.env.scope.names.lookup y = some .cell ∧ sc.names.lookup y = some .free) ∧ ∀ y ∈ sc.names, y.2 = .free → y.1 ∈ Glo.ln j
def FOs (X : Cx) (H0 H : Hp) : List (Nat × List Nat) → List Addr → Prop
  | [], fs => fs = []
  | q :: r, fs => ∃ f t, fs = f :: t ∧ FO X q.1 H f ∧ H0 f = none ∧ FOs X H0 H r t
theorem FO.mono {j : Nat} {H H' : Hp} {f : Addr} (h : FO X j H f) (k : ∀ a o, H a = some o → (∀ xs, o ≠ .lst xs) → (∀ ps, o ≠ .tbl ps) → H' a = some o) : FO X j H' f := by
  obtain ⟨c', ps, b, sc, pm, ctv, h1, h2, h3, h4⟩ := h
  exact ⟨c', ps, b, sc, pm, ctv, h1, k _ _ h2 (fun _ z => nomatch z) (fun _ z => nomatch z), k _ _ h3 (fun _ z => by unfold LamX.CodeO at z; cases z) LamX.codeO_ne, h4⟩
theorem FOs.mono {H0 H H' : Hp} (k : ∀ a o, H a = some o → (∀ xs, o ≠ .lst xs) → (∀ ps, o ≠ .tbl ps) → H' a = some o) : ∀ {js : List (Nat × List Nat)} {fs : List Addr}, FOs X H0 H js fs → FOs X H0 H' js fs
  | [], _, h => h
  | q :: r, _, h => by
    obtain ⟨f, t, e, h1, h2, h3⟩ := h
    exact ⟨f, t, e, h1.mono k, h2, FOs.mono k h3⟩
theorem FOs.snoc {H0 H : Hp} {q : Nat × List Nat} {f : Addr} (h1 : FO X q.1 H f) (h2 : H0 f = none) : ∀ {js : List (Nat × List Nat)} {fs : List Addr}, FOs X H0 H js fs → FOs X H0 H (js ++ [q]) (fs ++ [f])
  | [], _, h => by
    have h : _ = [] := h
    subst h
    exact ⟨f, [], rfl, h1, h2, rfl⟩
  | p :: r, _, h => by
    obtain ⟨g, t, e, k1, k2, k3⟩ := h
    exact ⟨g, t ++ [f], by rw [e]; rfl, k1, k2, FOs.snoc h1 h2 k3⟩
theorem FOs.len {H0 H : Hp} : ∀ {js : List (Nat × List Nat)} {fs : List Addr}, FOs X H0 H js fs → fs.length = js.length
  | [], _, h => by
    have h : _ = [] := h
    rw [h]
    rfl
  | q :: r, _, h => by
    obtain ⟨f, t, e, _, _, h3⟩ := h
    rw [e, List.length_cons, List.length_cons, FOs.len h3]
/-- an object that nobody knows, known from now on -/
theorem inv_knows {pins : List (Addr × Obj)} {σ : L2.St} {H : Hp} {s : Shared} {f : Addr} {o : Obj} (I : L2.Inv X pins σ H s) (ho : s.heap.get? f = some o) (hn : H f = none) (hge : X.s_0.heap.objs.size ≤ f) (h1 : f ≠ X.env.locals) (h2 : ∀ y c, X.env.cells.lookup y = some c → c ≠ f) (h3 : ∀ p ∈ X.pn ++ pins, p.1 ≠ f) :
    L2.Inv X pins σ (upd H f (.frz o (.own f))) s := by
  have up : ∀ {a u}, H a = some u → upd H f (.frz o (.own f)) a = some u := fun {a u} e => by rw [upd_ne (ne_of_none e hn)]; exact e
  refine ⟨I.ok, I.os, I.bare, ⟨I.base.keep, I.base.slot, fun b u e z nx => ?_, I.base.there, fun b xs e => up (I.base.tups b xs e), fun b u v e => up (I.base.frzs b u v e), fun b ps e => ?_⟩, I.loc, I.cell, ?_, fun y c e => ?_, fun p hp => ?_, fun a u e => ?_, I.len⟩
  · have lt := Heap.lt_size e
    rw [upd_ne (Nat.ne_of_lt (Nat.lt_of_lt_of_le lt hge))]
    exact I.base.free b u e z nx
  · obtain ⟨m, q⟩ := I.base.tbls b ps e
    exact ⟨m, up q⟩
  · rw [upd_ne (Ne.symm h1)]
    exact I.free
  · rw [upd_ne (h2 y c e)]
    exact I.freeC y c e
  · obtain ⟨q1, q2, q3⟩ := I.pin p hp
    exact ⟨q1, by rw [upd_ne (h3 p hp)]; exact q2, q3⟩
  · by_cases ha : a = f
    · subst ha
      rw [upd_same] at e
      cases e
      exact ⟨ho, o, ho⟩
    · rw [upd_ne ha] at e
      exact (I.hok a u e).stay (fun _ _ _ z => z) (fun b z => up z) fun b xs z => up z
/-- a lambda's reading, made and kept -/
def tMade (X : Cx) (j : Nat) : TE := fun _ H Q => LamX.Tabs Glo.tabs H ∧ ∀ f H1, LamX.ExtN H H1 → (∀ a, H1 a = none → H a = none) → LamX.Tabs Glo.tabs H1 → H f = none → FO X j H1 f → Q (.ref f) H1
theorem pe_made (G : GX T C W c n se X) {j : Nat} {is : List Nat} {y : Expr} (hy : okLam T se j is y = true) : PE X y (tMade X j) := by
  unfold okLam at hy
  split at hy
  · rename_i ps b sc el
    obtain ⟨lp, rfl⟩ := asLam_eq el
    simp only [Bool.and_eq_true, decide_eq_true_eq, List.all_eq_true] at hy
    obtain ⟨hml, hlk, hnd, his, hln, hsc⟩ := hy
    obtain ⟨c0, P0, hcode, TB, htm, htu⟩ := G.mkf hml
    obtain ⟨hlk, eln⟩ := G.lkT j ps b sc hlk
    have hdef : defaultsOf ps X.env = ([], []) := by
      obtain ⟨a1, a2, a3, a4, a5, a6, a7⟩ := ps
      unfold noDef at hnd
      rw [Bool.and_eq_true] at hnd
      have e1 : a7 = [] := List.isEmpty_iff.mp hnd.1
      have e2 : a5 = [] := List.isEmpty_iff.mp hnd.2
      subst e1 e2
      rfl
    have hfr : ∀ z ∈ sc.names, z.2 = .free → z.1 ∈ T.ln j := fun z hz e => by
      have h := hsc z hz
      rw [e] at h
      simpa using h
    refine ⟨fun pins s σ H Q I ⟨hT, go⟩ => ?_⟩
    have hfree : ∀ z ∈ sc.names, z.2 = .free → ∃ c, X.env.cells.lookup z.1 = some c := fun z hz e => by
      have := (hln z.1 (hfr z hz e)).2.1
      rw [← G.sc] at this
      exact I.ok.has z.1 (.inl this)
    refine lam_new I TB hcode htm htu hT hdef hfree fun f c' pm ctv H1 s1 I1 eN bk T1 hf hfn hge hco => ?_
    have nloc : f ≠ X.env.locals := Nat.ne_of_gt (Nat.lt_of_lt_of_le I.lt hge)
    have I2 := inv_knows I1 hf hfn (Nat.le_trans I.sz hge) nloc (fun y c e z => by
      obtain ⟨v, o, ho, _⟩ := I.cell y c e
      rw [z] at ho
      exact absurd (Nat.lt_of_lt_of_le (Heap.lt_size ho) hge) (Nat.lt_irrefl _)) fun p hp z => by
      have q := (I.pin p hp).1
      rw [z] at q
      exact absurd (Nat.lt_of_lt_of_le (Heap.lt_size q) hge) (Nat.lt_irrefl _)
    refine ⟨.ref f, _, I2, rfl, go f _ (fun a o e nt => ?_) (fun a e => ?_) (T1.ext fun a o e => ?_) (bk f hfn) ⟨c', ps, b, sc, pm, ctv, hlk, upd_same, ?_, hfree, fun y hy => ?_, fun y hy e => by rw [eln]; exact hfr y hy e⟩⟩
    · have e1 := eN a o e nt
      rw [upd_ne (ne_of_none e1 hfn)]
      exact e1
    · by_cases ha : a = f
      · subst ha
        rw [upd_same] at e
        cases e
      · rw [upd_ne ha] at e
        exact bk a e
    · rw [upd_ne (ne_of_none e hfn)]
      exact e
    · rw [upd_ne (ne_of_none hco hfn)]
      exact hco
    · rw [eln] at hy
      have := (hln y hy).2
      rw [G.sc]
      exact this
  · cases hy
/-- how it stands behind some lambdas: the list is at al -/
structure Dn (X : Cx) (H0 H : Hp) (al : Addr) (js : List (Nat × List Nat)) (fs : List Addr) : Prop where
  ext : LamX.ExtN H0 H
  back : ∀ a, H a = none → H0 a = none
  tabs : LamX.Tabs Glo.tabs H
  new : H0 al = none
  lst : H al = some (.lst (fs.map V.ref))
  fos : FOs X H0 H js fs
theorem okLam_is {j : Nat} {is : List Nat} {y : Expr} (G : GX T C W c n se X) (h : okLam T se j is y = true) : is.map (fun i => X.N[i]?) = (Glo.ln j).map some := by
  unfold okLam at h
  split at h
  · rename_i ps b sc el
    simp only [Bool.and_eq_true, decide_eq_true_eq] at h
    rw [G.N, (G.lkT j ps b sc h.2.1).2]
    exact h.2.2.2.1
  · cases h
/-- what is known of the captured slots -/
def IsOk (X : Cx) (ia : Nat) (js : List (Nat × List Nat)) : Prop := ∀ q ∈ js, q.2.map (fun i => X.N[i]?) = (Glo.ln q.1).map some ∧ ia ∉ q.2
/-- the list given away -/
def GoneBy (X : Cx) (pins : List (Addr × Obj)) (σ : L2.St) (H0 : Hp) (js : List (Nat × List Nat)) (ia : Nat) : Flow → Shared → Prop := fun fl s => ∃ (al : Addr) (H : Hp) (fs : List Addr), fl = .ret (.ref al) ∧ L2.Inv X pins (σ.set ia (some (.ref al))) H s ∧ Dn X H0 H al js fs
theorem apps_run (G : GX T C W c n se X) {ia : Nat} {a : Str} (hi : se.N[ia]? = some a) (hv : visB se.sc a = true) (ha : okNm a = true) {pins : List (Addr × Obj)} {σ : L2.St} {H0 : Hp} (hlt : ia < σ.length) {al : Addr} : ∀ (js : List (Nat × List Nat)) (xs : List Stmt), okApps T se ia a js xs = true → ∀ (s : Shared) (H : Hp) (ks : List (Nat × List Nat)) (fs : List Addr), ks.length + js.length ≤ 60 →
    L2.Inv X pins (σ.set ia (some (.ref al))) H s → Dn X H0 H al ks fs → wpAny (model X.prog X.w) X.A (execs xs X.env) (GoneBy X pins σ H0 (ks ++ js) ia) X.xe s
  | [], xs, h, s, H, ks, fs, hl, I, D => by
    obtain ⟨k1, k2, _⟩ := okNm_ok ha
    rcases xs with _ | ⟨r, _ | ⟨_, _⟩⟩
    · cases h
    · obtain ⟨p, q, rfl⟩ := isRetN_eq h
      have pv : PE X (.Name a p) (tVar ia) := pe_var (by rw [G.N]; exact hi) (by rw [G.sc]; exact visB_ok hv) k1 k2
      refine wpAny_execs_cons (wpAny_Return_some (thn (pv.run pins s _ H (fun v H' => v = .ref al ∧ H' = H) I ⟨.ref al, by rw [List.getElem?_set_self hlt], rfl, rfl⟩) fun u s1 ⟨v, H1, I1, r1, e1, e2⟩ => ?_))
      subst e1 e2
      have r1 : u = .ref al := r1
      subst r1
      rw [List.append_nil]
      exact ⟨al, _, fs, rfl, I1, D⟩
    · cases h
  | q :: js, xs, h, s, H, ks, fs, hl, I, D => by
    obtain ⟨k1, k2, _⟩ := okNm_ok ha
    rcases xs with _ | ⟨x, xs⟩
    · cases h
    · rw [okApps] at h
      split at h
      · rename_i b y hm
        obtain ⟨p, ap, cp, qp, rfl, hline⟩ := asApp_eq hm
        simp only [Bool.and_eq_true, decide_eq_true_eq] at h
        obtain ⟨rfl, h1, _, h3⟩ := h
        have py : ∃ lps lb lsc lp, y = .Lambda lps lb lsc lp := by
          unfold okLam at h1
          split at h1
          · rename_i el
            obtain ⟨lp, e⟩ := asLam_eq el
            exact ⟨_, _, _, lp, e⟩
          · cases h1
        have pm := pe_made G h1
        obtain ⟨lps, lb, lsc, lp, rfl⟩ := py
        have pv : PE X (.Name b p) (tVar ia) := pe_var (by rw [G.N]; exact hi) (by rw [G.sc]; exact visB_ok hv) k1 k2
        have pa : PA X [.Lambda lps lb lsc lp] _ := pa_cons pm pa_nil rfl
        have pc := ps_expr (pos := qp) (pe_bm (cpos := cp) (apos := ap) PySem.F.plainAttrs_list PySem.F.slot_list_append PySem.F.type_list_append (r := rAppend) (fun pins s σ H x xs v us Q I rx rxs h => mt_append pins s σ H x xs v us Q I rx rxs h) pv pa rfl rfl hline rfl rfl)
        have hlen := D.fos.len
        simp only [List.length_cons] at hl
        have go := pc.run pins s _ H { nx := fun σ' H' => σ' = σ.set ia (some (.ref al)) ∧ ∃ f, Dn X H0 H' al (ks ++ [q]) (fs ++ [f]), rt := fun _ _ => False } I ?_
        · refine wpAny_execs_cons (thn go fun fl s1 z => ?_)
          cases fl with
          | next =>
            obtain ⟨σ', H', I', rfl, f, D'⟩ := z
            have r := apps_run G hi hv ha hlt js xs h3 s1 H' (ks ++ [q]) (fs ++ [f]) (by rw [List.length_append, List.length_singleton]; omega) I' D'
            rw [List.append_assoc] at r
            exact r
          | ret _ =>
            obtain ⟨_, _, _, _, _, z⟩ := z
            exact z.elim
          | brk =>
            obtain ⟨_, _, _, z⟩ := z
            exact z.elim
          | cont =>
            obtain ⟨_, _, _, z⟩ := z
            exact z.elim
        · refine ⟨.ref al, by rw [List.getElem?_set_self hlt], .inl ⟨rfl, _, SqL.of D.lst⟩, ?_⟩
          show tMade X q.1 _ H _
          refine ⟨D.tabs, fun f H1 e1 b1 t1 n1 fo => ?_⟩
          have hl1 : H1 al = some (.lst (fs.map V.ref)) := e1 _ _ D.lst fun _ z => nomatch z
          refine ⟨al, _, .ref f, rfl, rfl, hl1, ?_, rfl, f, ?_⟩
          · rw [List.length_map, hlen]
            have : (60 : Nat) ≤ sizeLine := by decide
            omega
          · have up : ∀ b o, H1 b = some o → (∀ ys, o ≠ .lst ys) → upd H1 al (.lst (fs.map V.ref ++ [V.ref f])) b = some o := fun b o e n => by
              rw [upd_ne (fun z => by rw [z, hl1] at e; exact n _ (Option.some.inj e).symm)]
              exact e
            refine ⟨fun b o e nt => ?_, fun b e => ?_, tabs_upd t1 hl1, D.new, ?_, ?_⟩
            · have e2 := e1 b o (D.ext b o e nt) nt
              rw [upd_ne (ne_of_none e D.new)]
              exact e2
            · by_cases hb : b = al
              · rw [hb]; exact D.new
              · rw [upd_ne hb] at e
                exact D.back b (b1 b e)
            · rw [upd_same, List.map_append]
              rfl
            · exact ((D.fos.mono fun b o e _ nt => e1 b o e nt).snoc fo (D.back f n1)).mono fun b o e n _ => up b o e n
      · cases h
theorem apps_is (G : GX T C W c n se X) {ia : Nat} {a : Str} : ∀ {js : List (Nat × List Nat)} {xs : List Stmt}, okApps T se ia a js xs = true → IsOk X ia js
  | [], _, _ => fun _ z => nomatch z
  | q :: js, xs, h => by
    rcases xs with _ | ⟨x, xs⟩
    · cases h
    · rw [okApps] at h
      split at h
      · simp only [Bool.and_eq_true, decide_eq_true_eq, Bool.not_eq_true'] at h
        obtain ⟨_, h1, h2, h3⟩ := h
        intro p hp
        rcases List.mem_cons.mp hp with rfl | hp
        · exact ⟨okLam_is G h1, fun z => by
            have : p.2.contains ia = true := by simpa using z
            rw [h2] at this
            cases this⟩
        · exact apps_is G h3 p hp
      · cases h
theorem mk_run (G : GX T C W c n se X) {body : Sms} {b : List Stmt} (h : okMk T se body b = true) : ∃ js ia, body = .cons (.mkl js) .nil ∧ IsOk X ia js ∧ ∀ (pins : List (Addr × Obj)) (s : Shared) (σ : L2.St) (H0 : Hp), L2.Inv X pins σ H0 s → LamX.Tabs Glo.tabs H0 →
    wpAny (model X.prog X.w) X.A (execs b X.env) (GoneBy X pins σ H0 js ia) X.xe s := by
  unfold okMk at h
  split at h
  · rename_i q js x xs
    split at h
    · rename_i t y hm
      obtain ⟨ap, rfl⟩ := asAsg_eq hm
      split at h
      · rename_i a z ha hz
        obtain ⟨tp, rfl⟩ := asName_eq ha
        obtain ⟨bp, rfl⟩ := asLst1_eq hz
        simp only [Bool.and_eq_true, decide_eq_true_eq, Bool.not_eq_true'] at h
        obtain ⟨h1, h2, h2v, h3, h4, h5, h6, h7⟩ := h
        obtain ⟨l1, l2⟩ := locB_ok G.sx h2
        have hi : X.N[se.N.idxOf a]? = some a := by rw [G.N]; exact h1
        refine ⟨q :: js, se.N.idxOf a, rfl, fun p hp => ?_, fun pins s σ H0 I hT => ?_⟩
        · rcases List.mem_cons.mp hp with rfl | hp
          · exact ⟨okLam_is G h5, fun z => by
              have : p.2.contains (se.N.idxOf a) = true := by simpa using z
              rw [h6] at this
              cases this⟩
          · exact apps_is G h7 p hp
        · have hlt : se.N.idxOf a < σ.length := by
            rw [I.len]
            exact (List.getElem?_eq_some_iff.mp hi).1
          have py : ∃ lps lb lsc lp, z = .Lambda lps lb lsc lp := by
            unfold okLam at h5
            split at h5
            · rename_i el
              obtain ⟨lp, e⟩ := asLam_eq el
              exact ⟨_, _, _, lp, e⟩
            · cases h5
          have pm := pe_made G h5
          obtain ⟨lps, lb, lsc, lp, rfl⟩ := py
          have pa : PA X [.Lambda lps lb lsc lp] _ := pa_cons pm pa_nil rfl
          have ps := ps_set (pos := ap) (pos' := tp) (by rw [G.N]; exact G.nd) hi l1 (pe_lst (pos := bp) pa) rfl l2
          have go := ps.run pins s σ H0 { nx := fun σ' H' => ∃ al f, σ' = σ.set (se.N.idxOf a) (some (.ref al)) ∧ Dn X H0 H' al [q] [f], rt := fun _ _ => False } I ?_
          · refine wpAny_execs_cons (thn go fun fl s1 z => ?_)
            cases fl with
            | next =>
              obtain ⟨σ', H', I', al, f, rfl, D⟩ := z
              have hlt' : se.N.idxOf a < σ.length := hlt
              exact apps_run G h1 h2v h3 hlt' js xs h7 s1 H' [q] [f] (by simp only [List.length_singleton]; omega) I' D
            | ret _ =>
              obtain ⟨_, _, _, _, _, z⟩ := z
              exact z.elim
            | brk =>
              obtain ⟨_, _, _, z⟩ := z
              exact z.elim
            | cont =>
              obtain ⟨_, _, _, z⟩ := z
              exact z.elim
          · refine ⟨hT, fun f H1 e1 b1 t1 n1 fo => ?_⟩
            refine ⟨show 1 ≤ sizeLine by decide, fun al hal => ⟨al, f, rfl, ?_⟩⟩
            have up : ∀ b o, H1 b = some o → upd H1 al (.lst [V.ref f]) b = some o := fun b o e => by
              rw [upd_ne (ne_of_none e hal)]
              exact e
            refine ⟨fun b o e nt => up b o (e1 b o e nt), fun b e => ?_, t1.ext up, b1 al hal, upd_same, ⟨f, [], rfl, fo.mono fun b o e _ _ => up b o e, n1, rfl⟩⟩
            by_cases hb : b = al
            · rw [hb]; exact b1 al hal
            · rw [upd_ne hb] at e
              exact b1 b e
      · cases h
    · cases h
  · cases h
/-! ### what it gives, told -/
theorem clos_rep {F : Fr} {H H1 Hf : Hp} {pins : List (Addr × Obj)} {σ : L2.St} {s : Shared} {ρ : Sl} {ia : Nat} {u : V} {N : List Str} (hN : X.N = N) (I : L2.Inv X pins (σ.set ia (some u)) H1 s) (hl : Slo F H ρ σ) (sf : Sto F Hf) (xf : Ext F H F Hf)
    (up : ∀ a o, H1 a = some o → Hf a = some o) (hc : ∀ y c co, X.env.cells.lookup y = some c → s.heap.get? c = some co → Hf c = some (.frz co (.own c)) ∧ ¬ F.un c) (hn : ∀ a, H a = none → ¬ F.un a) : ∀ {js : List (Nat × List Nat)} {fs : List Addr} {ds : List D}, FOs X H H1 js fs → IsOk X ia js → mkls ρ js = some ds → Reps F Hf ds (fs.map V.ref)
  | [], _, ds, h, _, e => by
    have h : _ = [] := h
    subst h
    cases e
    rfl
  | (j, is) :: js, _, ds, h, ok, e => by
    obtain ⟨f, t, rfl, fo, f0, h⟩ := h
    rw [mkls] at e
    split at e
    · rename_i xs hx
      by_cases hb : bareDs xs = true
      · rw [if_pos hb] at e
        cases hr : mkls ρ js with
        | none => rw [hr] at e; cases e
        | some rs =>
          rw [hr] at e
          cases e
          have ih := clos_rep hN I hl sf xf up hc hn h (fun q hq => ok q (List.mem_cons_of_mem _ hq)) hr
          refine ⟨.ref f, t.map V.ref, rfl, ?_, ih⟩
          obtain ⟨c', ps, b, sc, pm, ctv, g1, g2, g3, g4, g5, g6⟩ := fo
          obtain ⟨k1, k2⟩ := ok (j, is) List.mem_cons_self
          obtain ⟨vs, r, ev⟩ := gets_reps hl hx
          have sub : ∀ y c, (y, c) ∈ cloFrom X.env.cells sc.names [] → X.env.cells.lookup y = some c ∧ y ∈ Glo.ln j := fun y c hm => by
            obtain ⟨q1, q2⟩ := clo_sub g4 hm
            exact ⟨q1, g6 _ q2 rfl⟩
          refine ⟨f, c', _, ps, b, sc, _, pm, ctv, rfl, g1, hn f f0, up _ _ g2, sf.nux (up _ _ g3), up _ _ g3, fun y z c q1 q2 => I.ok.inj y z c (sub _ _ (PySem.mem_of_lookup q1)).1 (sub _ _ (PySem.mem_of_lookup q2)).1, fun y c q1 => (sub _ _ (PySem.mem_of_lookup q1)).2, ?_⟩
          refine capC I hN g4 (fun y c co hm ho => hc y c co (sub y c hm).1 ho) is (Glo.ln j) xs vs (by rw [← hN]; exact k1) g5 ?_ (r.ext xf)
          rw [← ev]
          refine List.map_congr_left fun i hi => ?_
          rw [List.getElem?_set_ne (fun z => k2 (by rw [z]; exact hi))]
      · rw [if_neg hb] at e
        cases e
    · cases e
end
end MP
end
section
set_option maxRecDepth 100000
set_option maxHeartbeats 8000000
/-! MPFn: every def of the table keeps its promise. -/
namespace MP
open PySem L2 PySem.Spec PyProof.Rows
variable [Glo]
/-- how a def's body may end -/
def EndB (up : List Env) (P : Program) (w : World) (H : Hp) (s : Shared) (Q : VK) : Flow → Shared → Prop := fun fl s' => match fl with
  | .ret u => CE up P w H s Q u s'
  | .next => CE up P w H s Q .none s'
  | _ => False
/-- a def by its body, where no repr of a list is under way -/
theorem fnG_run {P : Program} {w : World} {K : PySem.W.Frag} {mg : Str → Option Value} {base : Heap} {n : Nat} {f : Addr} {x qual : Str} {pr : Arguments} {b : List Stmt} {sc : Scope} {N ps : List Str} {dvs : List V} {kws : List (Str × V)} {fd : FuncData} {sp : Sp}
    (D : FunD K x qual pr b sc dvs kws f fd) (S : FnScope N ps sc) (hw : ∀ xs H Q E, sp xs H Q E → xs.length = ps.length)
    (hb : ∀ (cd : Value) (A : Around) (up : List Env) (s : Shared) (H : Hp) (xs : List V) (Q : VK) (E : XK), (∃ oc od fd' os, K.lookup f = some ⟨oc, od, .func fd', os⟩ ∧ fd'.code = cd ∧ fd'.qualname = qual) → A.guards = some [] → Room n (A.deeper (envOfC qual sc s.heap.objs.size f cd)) → sp xs H Q E →
      ∀ s1, L2.Inv (cxOf (L2.CX P w) P w K mg base N qual sc f cd A up s H E) [] (start N xs) H s1 →
      wpAny (model P w) (A.deeper (envOfC qual sc s.heap.objs.size f cd)) (execs b (envOfC qual sc s.heap.objs.size f cd)) (EndB up P w H s Q) (cxOf (L2.CX P w) P w K mg base N qual sc f cd A up s H E).xe s1) : FnG P w K mg base (n + 1) f fd ps sp := by
  obtain ⟨oc, od, dV, kV, dc, pm, an, cd, ct, os, rfl, lk, hcd, _, _⟩ := D.ex
  refine ⟨hw, fun A up s H args us xs Q E hg hr he hbi r hsp => ?_⟩
  have hlen := hw _ _ _ _ hsp
  have kin : K.In s.heap := he.mod.kin.keeps fun a o e => (he.bs a o e).1
  have nol : s.heap.NoLimit := he.mod.nolimit.keeps fun a o e => (he.bs a o e).1
  have kinds : ∀ z ∈ ps.zip us, sc.names.lookup z.1 = some .local ∨ (sc.names.lookup z.1 = some .cell ∧ ((cellsFrom (s.heap.objs.size + 1) sc.names []).lookup z.1).isSome = true) := by
    rintro ⟨m, v⟩ hz
    exact (S.par m (List.of_mem_zip hz).1).imp id fun q => ⟨q, PySem.W.cellsFrom_some _ _ _ (.inl q)⟩
  refine codeAny_call_function hr.depth (kin _ _ lk) rfl S.co S.gen rfl (PySem.W.codeRec_of kin hcd) (hbi _ _ _ _ (wpAny_newFunctionEnv_cells S.kind kinds fun env eq s1 ic => ?_))
  subst eq
  refine ⟨nol.keeps ic.toInCall.keep, codeAny_func ?_⟩
  have I0 : L2.Inv (cxOf (L2.CX P w) P w K mg base N qual sc f cd A up s H E) [] (start N xs) H s1 := inv_start S hr.hd he hlen r ic
  refine wpAny_mono (hb cd A up s H xs Q E ⟨_, _, _, _, lk, rfl, rfl⟩ hg (hr.deeper _) hsp s1 I0) (fun fl s2 z => ?_) fun _ _ z => z
  cases fl with
  | next => exact z
  | ret u => exact z
  | brk => exact z.elim
  | cont => exact z.elim
theorem fnG_of {P : Program} {w : World} {K : PySem.W.Frag} {mg : Str → Option Value} {base : Heap} {n : Nat} {f : Addr} {x qual : Str} {pr : Arguments} {b : List Stmt} {sc : Scope} {N ps : List Str} {dvs : List V} {kws : List (Str × V)} {fd : FuncData} {sp : Sp}
    (D : FunD K x qual pr b sc dvs kws f fd) (S : FnScope N ps sc) (hw : ∀ xs H Q E, sp xs H Q E → xs.length = ps.length)
    (hb : ∀ (cd : Value) (A : Around) (up : List Env) (s : Shared) (H : Hp) (xs : List V) (Q : VK) (E : XK), (∃ oc od fd' os, K.lookup f = some ⟨oc, od, .func fd', os⟩ ∧ fd'.code = cd ∧ fd'.qualname = qual) → A.guards = some [] → Room n (A.deeper (envOfC qual sc s.heap.objs.size f cd)) → sp xs H Q E →
      ∃ t, PSs (cxOf (L2.CX P w) P w K mg base N qual sc f cd A up s H E) b t ∧ t { nx := fun _ H' => Q .non H', rt := Q } (start N xs) H) : FnG P w K mg base (n + 1) f fd ps sp :=
  fnG_run D S hw fun cd A up s H xs Q E hk hg hr hsp s1 I0 => by
    obtain ⟨t, ht, hq⟩ := hb cd A up s H xs Q E hk hg hr hsp
    refine thn (ht.run [] s1 (start N xs) H _ I0 hq) fun fl s2 z => ?_
    cases fl with
    | next =>
      obtain ⟨_, H2, J, q⟩ := z
      exact ⟨.non, H2, J.os, J.bare, J.base, J.hok, rfl, q⟩
    | ret u =>
      obtain ⟨v, _, H2, J, rv, q⟩ := z
      exact ⟨v, H2, J.os, J.bare, J.base, J.hok, rv, q⟩
    | brk =>
      obtain ⟨_, _, _, q⟩ := z
      exact q.elim
    | cont =>
      obtain ⟨_, _, _, q⟩ := z
      exact q.elim
/-! ### lambdas -/
/-- the table without lambdas: for their own bodies -/
def noL (T : Tab) : Tab := { T with lk := fun _ _ _ _ => false }
def noPar : Arguments → Bool
  | ⟨[], [], none, [], [], none, []⟩ => true
  | _ => false
theorem noPar_eq {ps : Arguments} (h : noPar ps = true) : ps = ⟨[], [], none, [], [], none, []⟩ := by
  unfold noPar at h
  split at h
  · rfl
  · cases h
/-- the j-th lambda's body is the tree that the table holds -/
def lamB (T : Tab) (P : Nat → Option Fn) (j : Nat) (ps : Arguments) (b : Expr) (sc : Scope) : Bool := noPar ps && (decide (sc.kind = .function) && (!sc.isCoroutine && (!sc.isGenerator && ((sc.names.all fun y => !decide (y.2 = .local) && (!decide (y.2 = .cell) && (!decide (y.2 = .free) || (T.ln j).contains y.1))) &&
  (((T.ln j).all fun y => decide (sc.names.lookup y = some .free)) && (decide (T.ln j).Nodup && (match P (T.fns.length + j) with
    | some ⟨a, m, .cons (.ret e) .nil⟩ => decide (a = (T.ln j).length) && (decide (m = (T.ln j).length) && okE (noL T) ⟨T.ln j, sc, fun _ => false, false⟩ e b)
    | _ => false)))))))
structure LamF (T : Tab) (P : Nat → Option Fn) (j : Nat) (ps : Arguments) (b : Expr) (sc : Scope) : Prop where
  par : ps = ⟨[], [], none, [], [], none, []⟩
  kind : sc.kind = .function
  co : sc.isCoroutine = false
  gen : sc.isGenerator = false
  own : ∀ y ∈ sc.names, y.2 ≠ .local ∧ y.2 ≠ .cell
  fre : ∀ y, sc.names.lookup y = some .free → y ∈ T.ln j
  has : ∀ y ∈ T.ln j, sc.names.lookup y = some .free
  nd : (T.ln j).Nodup
  body : ∃ e, P (T.fns.length + j) = some ⟨(T.ln j).length, (T.ln j).length, .cons (.ret e) .nil⟩ ∧ okE (noL T) ⟨T.ln j, sc, fun _ => false, false⟩ e b = true
theorem lamB_ok {T : Tab} {P : Nat → Option Fn} {j : Nat} {ps : Arguments} {b : Expr} {sc : Scope} (h : lamB T P j ps b sc = true) : LamF T P j ps b sc := by
  unfold lamB at h
  simp only [Bool.and_eq_true, Bool.not_eq_true', Bool.or_eq_true, decide_eq_true_eq, decide_eq_false_iff_not, List.all_eq_true] at h
  obtain ⟨h1, h2, h3, h4, h5, h6, h7, h8⟩ := h
  refine ⟨noPar_eq h1, h2, h3, h4, fun y hy => ⟨(h5 y hy).1, (h5 y hy).2.1⟩, fun y hy => ?_, h6, h7, ?_⟩
  · rcases (h5 _ (PySem.mem_of_lookup hy)).2.2 with z | z
    · exact absurd rfl z
    · simpa using z
  · split at h8
    · rename_i a m e he
      simp only [Bool.and_eq_true, decide_eq_true_eq] at h8
      obtain ⟨rfl, rfl, h8⟩ := h8
      exact ⟨e, he, h8⟩
    · cases h8
/-- a lambda's own context -/
def lamX (P : Program) (w : World) (K : PySem.W.Frag) (mg : Str → Option Value) (base : Heap) (N : List Str) (env : Env) (A : Around) (up : List Env) (s : Shared) (H : Hp) (E : XK) : Cx where
  prog := P
  w := w
  K := K
  mg := mg
  base := base
  A := A.deeper env
  N := N
  s_0 := s
  H_0 := H
  env := env
  outer := up
  stack := env :: up
  ex := []
  fn := fun _ => false
  calm := true
  pn := []
  xe := fun u t => wpAny (model P w) (A.deeper env) (leaving env u) (fun _ t' => L2.CX P w up H s E u t') (fun u' t' => L2.CX P w up H s E u' t') t
theorem repC_at {F : Fr} {H : Hp} {cl : List (Str × Addr)} : ∀ {ds : List D} {ns : List Str}, RepC F H cl ds ns → ∃ ws : List V, Reps F H ds ws ∧ ds.length = ns.length ∧ ws.length = ns.length ∧
    ∀ (i : Nat) (y : Str), ns[i]? = some y → ∃ c co u v, ws[i]? = some v ∧ cl.lookup y = some c ∧ ¬ F.un c ∧ H c = some (.frz co (.own c)) ∧ co.data = .cell (some u) ∧ RelV v u
  | [], ns, h => by
    have h : ns = [] := h
    subst h
    exact ⟨[], rfl, rfl, rfl, fun i y e => by simp at e⟩
  | d :: ds, ns, h => by
    obtain ⟨y, r, c, co, u, v, rfl, e1, hu, e2, e3, rv, rd, rr⟩ := h
    obtain ⟨ws, r1, l1, l2, k⟩ := repC_at rr
    refine ⟨v :: ws, ⟨v, ws, rfl, rd, r1⟩, by simp [l1], by simp [l2], fun i z e => ?_⟩
    cases i with
    | zero =>
      simp at e
      subst e
      exact ⟨c, co, u, v, rfl, e1, hu, e2, e3, rv⟩
    | succ i => exact k i z (by simpa using e)
theorem run1_ret {c : Cxt} {m : Nat} {e : Ex} {ds : List D} {st : Store} (h : ds.length = m) : run1 c ⟨m, m, .cons (.ret e) .nil⟩ ds st = ev c e (ds.map some) st := by
  subst h
  unfold run1
  simp only [if_pos rfl, Nat.sub_self, List.replicate_zero, List.append_nil, exs, ex]
  cases ev c e (ds.map some) st <;> rfl
/-- a def's body, looked at -/
def okB (T : Tab) (se : SE) (ss : Sms) (xs : List Stmt) : Bool := okSts T se ss xs || okMk T se ss xs
/-- what the head tells of the module, by the table -/
structure Md (T : Tab) (P : Nat → Option Fn) (con : Nat → Option D) (prog : Program) (K : PySem.W.Frag) (mg : Str → Option Value) : Prop where
  bl : ∀ x, x ∈ bnames → mg x = none
  con : ∀ (g : Nat) (x : Str) (d : D), T.con[g]? = some x → con g = some d → ∃ u v, mg x = some u ∧ RelV v u ∧ ∀ F H, Rep F H d v
  fns : ∀ (f : Nat) (x : Str), T.fns[f]? = some x → mg x = some (.ref (Glo.fn f)) ∧ ∃ (fn : Fn) (fd : FuncData) (qual : Str) (pr : Arguments) (b : List Stmt) (sc : Scope) (N ps : List Str) (dvs : List V) (kws : List (Str × V)),
    P f = some fn ∧ FunD K x qual pr b sc dvs kws (Glo.fn f) fd ∧ FnScope N ps sc ∧ ps.length = fn.ar ∧ N.length = fn.sl ∧ okB T ⟨N, sc, fun _ => true, T.mks.contains f⟩ fn.body b = true ∧ Binds K fd ps [] ∧ ∀ m ks ix, (f, m, ks, ix) ∈ T.kws → KB K fd ps m ks ix
  nx : Glo.nx = T.exc.length
  exc : ∀ (g : Nat) (x : Str), T.exc[g]? = some x → mg x = some (.ref (Glo.cl g)) ∧ ExF K (Glo.cl g)
  exk : ∀ g k, g < T.exc.length → k < T.exc.length → PySem.W.kitOne K (.ref (Glo.cl g)) (.ref (Glo.cl k)) = some (decide (g = k) || decide (k = 0))
  sp : PySem.W.specialIn K (.builtin "object.__class__") "__get__" = some (some (.builtin "getset_descriptor.__get__")) ∧ PySem.W.takesIn K (.builtin "object.__class__") = some true
  hol : ∀ (k : Nat) (x : Str), T.exc[k]? = some x → HoleC prog K (Glo.cl k)
  sup : mg "super" = none
  exm : ∀ g k, g < T.exc.length → k < T.exc.length → PySem.W.exmOne K (.ref (Glo.cl g)) (.ref (Glo.cl k)) = some (decide (g = k) || decide (k = 0))
  lam : ∀ j ps b sc, Glo.lk j ps b sc = true → LamF T P j ps b sc
  lkT : ∀ j ps b sc, T.lk j ps b sc = true → Glo.lk j ps b sc = true
  ln : Glo.ln = T.ln
/-- the tables of the defs that make lambdas -/
def TabH (T : Tab) (K : PySem.W.Frag) (mg : Str → Option Value) (base : Heap) : Prop := ∀ (f : Nat) (x : Str), T.fns[f]? = some x → T.mks.contains f = true → ∀ (oc : Value) (od : Option Addr) (fd : FuncData) (os : Array (Option Value)), K.lookup (Glo.fn f) = some ⟨oc, od, .func fd, os⟩ →
  ∃ c0 P0 : Addr, fd.code = .ref c0 ∧ LamX.TabB base mg c0 P0 ∧ (P0, fd.qualname ++ ".<locals>." ++ "<lambda>") ∈ Glo.tabs ∧ ∀ p ∈ Glo.tabs, p.1 = P0 → p.2 = fd.qualname ++ ".<locals>." ++ "<lambda>"
section
variable {T : Tab} {P : Nat → Option Fn} {con : Nat → Option D} {wl : Nat} {prog : Program} {w : World} {K : PySem.W.Frag} {mg : Str → Option Value} {base : Heap}
/-- what a call of a def may lean on, n calls deep -/
def cxt (T : Tab) (P : Nat → Option Fn) (con : Nat → Option D) (wl n : Nat) : Cxt := ⟨run P con wl T.fns.length n, con, wl, T.fns.length⟩
/-- all defs, n calls deep -/
def Dp (T : Tab) (P : Nat → Option Fn) (con : Nat → Option D) (wl : Nat) (prog : Program) (w : World) (K : PySem.W.Frag) (mg : Str → Option Value) (base : Heap) (n : Nat) : Prop :=
  ∀ (f : Nat) (x : Str), T.fns[f]? = some x → ∃ fd ps, FnG prog w K mg base n (Glo.fn f) fd ps (spF Glo.cl (cxt T P con wl n) f) ∧ Binds K fd ps [] ∧ ∀ m ks ix, (f, m, ks, ix) ∈ T.kws → KB K fd ps m ks ix
theorem lam_step (M : Md T P con prog K mg) {n : Nat} (h : Dp T P con wl prog w K mg base n) (hl : LamG prog w K mg base Glo.cl (cxt T P con wl n) n) : LamG prog w K mg base Glo.cl (cxt T P con wl (n + 1)) (n + 1) := by
  intro j A up s H F ds xs f vs us Q E hg hr he s0 e0 hrep hbd hxs hrx hrv q
  subst hxs
  have hrx : vs = [] := hrx
  subst hrx
  cases hrv
  obtain ⟨f1, c', qn, ps, b, sc, cl, pm, ctv, ef, hlk, hun, hf, hun2, hc, inj, sub, rc⟩ := hrep
  obtain rfl : f = f1 := by injection ef
  have L := M.lam j ps b sc hlk
  rw [M.ln] at sub rc
  obtain ⟨ws, rws, l1, l2, at_⟩ := repC_at rc
  obtain ⟨e, hP, hok⟩ := L.body
  obtain ⟨Kc, eK⟩ : ∃ Kc : List (Addr × Obj), Kc = obK s.heap ((T.ln j).filterMap fun y => cl.lookup y) := ⟨_, rfl⟩
  have cell : ∀ y c, cl.lookup y = some c → ∃ i co u v, (T.ln j)[i]? = some y ∧ ws[i]? = some v ∧ ¬ F.un c ∧ H c = some (.frz co (.own c)) ∧ co.data = .cell (some u) ∧ RelV v u := fun y c hy => by
    obtain ⟨i, hi⟩ := List.mem_iff_getElem?.mp (sub y c hy)
    obtain ⟨c2, co, u, v, a1, a2, a3, a4, a5, a6⟩ := at_ i y hi
    rw [hy] at a2
    cases a2
    exact ⟨i, co, u, v, hi, a1, a3, a4, a5, a6⟩
  have inK : ∀ a o, Kc.lookup a = some o → ∃ y, cl.lookup y = some a ∧ ¬ F.un a ∧ H a = some (.frz o (.own a)) := fun a o ha => by
    rw [eK] at ha
    obtain ⟨m, ho⟩ := obK_in ha
    obtain ⟨y, _, hy⟩ := List.mem_filterMap.mp m
    obtain ⟨_, co, _, _, _, _, g1, g2, _⟩ := cell y a hy
    have g3 := (he.hok a _ g2).1
    rw [ho] at g3
    cases g3
    exact ⟨y, hy, g1, g2⟩
  have ofK : ∀ y c, cl.lookup y = some c → ∃ o, Kc.lookup c = some o := fun y c hy => by
    obtain ⟨_, co, _, _, _, _, _, g2, _⟩ := cell y c hy
    exact ⟨co, by rw [eK]; exact obK_of (he.hok c _ g2).1 (List.mem_filterMap.mpr ⟨y, sub y c hy, hy⟩)⟩
  have got : Got Kc (frs up) H := ⟨fun a o ha => (inK a o ha).choose_spec.2.2, fun a o ha hb => by
    obtain ⟨_, _, _, g⟩ := inK a o ha
    rw [he.frf a hb] at g
    cases g⟩
  have hu : ∀ a o, Kc.lookup a = some o → ¬ F.un a := fun a o ha => (inK a o ha).choose_spec.2.1
  have back := got.back
  have fre := got.fre he.hok
  have hok' := got.hok he.hok
  have s1 := got.sto e0 hu s0
  have fn_ : ∀ {a}, H a = none → fgt Kc H a = none := fun {a} e => by
    cases q : Kc.lookup a with
    | none => rw [fgt_out q]; exact e
    | some o => exact fgt_in q
  have len : ds.length = (T.ln j).length := l1
  have q : Aft Rep Glo.cl (fun cl d H' => E cl d H') F H (bareR (run P con wl T.fns.length (n + 1) (T.fns.length + j) (ds ++ []) []) []) fun _ H' _ v => Q v H' := q
  have ek : run P con wl T.fns.length (n + 1) (T.fns.length + j) (ds ++ []) [] = ev (cxt T P con wl n) e (ds.map some) F.st := by
    rw [run, hP, List.append_nil, e0]
    exact run1_ret len
  rw [ek] at q
  have q2 := aft_lrn e0 got hu s0 q
  obtain ⟨E0, eE⟩ : ∃ E0 : XK, E0 = fun cl d H' => (∀ a o, Kc.lookup a = some o → H' a = none) → E cl d (lrn Kc H') := ⟨_, rfl⟩
  obtain ⟨Q0, eQ⟩ : ∃ Q0 : VK, Q0 = fun v H' => (∀ a o, Kc.lookup a = some o → H' a = none) → Q v (lrn Kc H') := ⟨_, rfl⟩
  have q3 : Aft Rep Glo.cl (fun cl d H' => E0 cl d H') F (fgt Kc H) (ev (cxt T P con wl n) e (ds.map some) F.st) fun _ H' _ v => Q0 v H' := by
    rw [eE, eQ]
    exact q2
  have rv1 : Reps F (fgt Kc H) ds ws := repsB (fun a o ha hv _ hz => ⟨hv, fgt_keep got ha hz⟩) _ _ hbd rws
  have hobj := (he.hok f _ hf).1
  obtain ⟨⟨oc, fvs, t, hoc, hdc, hvc⟩, _, _⟩ := he.hok c' _ hc
  have lim : s.heap.NoLimit := he.mod.nolimit.keeps fun a o e => (he.bs a o e).1
  have rc : codeAny (model prog w) A (.call (.ref f) ⟨[], []⟩) (CR (L2.CX prog w) up prog w (fgt Kc H) s Q0 E0) s := by
    refine PySem.W.kla_callFunE hr.depth hobj rfl L.co L.gen rfl ⟨c', oc, fvs, t, rfl, hoc, hdc, hvc⟩ ?_
    have hb0 : bindArgs (PySem.W.kla_fn "<lambda>" qn ps b sc cl pm (.ref c') ctv) ⟨[], []⟩ = pure [] := by
      rw [L.par]
      rfl
    rw [hb0]
    refine wpAny_pure (wpAny_newFunctionEnv (fun y hy => (L.own y hy).2) (fun y hy => nomatch hy) (fun h1 hns hsb => ⟨lim.fresh _ hsb, ?_⟩) L.kind)
    have kp : ∀ a o, s.heap.get? a = some o → h1.get? a = some o := fun a o ha => hsb.extBut a o (Nat.ne_of_lt (Heap.lt_size ha)) (Heap.get?_push_of_some _ ha)
    obtain ⟨env, eenv⟩ : ∃ env : Env, env = PySem.W.envX qn sc s.heap.objs.size f (.ref c') cl := ⟨_, rfl⟩
    show codeAny _ _ (.expr b (PySem.W.envX qn sc s.heap.objs.size f (.ref c') cl)) _ _
    rw [← eenv]
    have esc : env.scope = sc := by rw [eenv]
    have ecl : env.cells = cl := by rw [eenv]
    have eloc : env.locals = s.heap.objs.size := by rw [eenv]
    have efr : env.frame = some env.locals := by rw [eenv]
    have egl : env.globals = mainGlobals := by rw [eenv]
    have ebl : env.builtins = builtinsNs := by rw [eenv]
    have I : L2.Inv (lamX prog w K mg base (T.ln j) env A up s (fgt Kc H) E0) [] (ws.map some) (fgt Kc H) { s with heap := h1, toks := s.toks + ([] : List (Str × Value)).length } := {
      ok := {
        mod := he.mod
        kind := by show env.scope.kind = _; rw [esc]; exact L.kind
        glob := egl
        blt := ebl
        above := by show s.heap.objs.size ≤ env.locals; rw [eloc]; exact Nat.le_refl _
        inj := fun y z c k1 k2 => inj y z c (by rw [← ecl]; exact k1) (by rw [← ecl]; exact k2)
        has := fun y hy => by
          have hy : sc.names.lookup y = some .cell ∨ sc.names.lookup y = some .free := by rw [← esc]; exact hy
          rcases hy with hy | hy
          · exact absurd rfl (L.own _ (PySem.mem_of_lookup hy)).2
          · obtain ⟨i, hi⟩ := List.mem_iff_getElem?.mp (L.fre y hy)
            obtain ⟨c, _, _, _, _, k, _⟩ := at_ i y hi
            exact ⟨c, by show env.cells.lookup y = _; rw [ecl]; exact k⟩
        cab := fun y c z => Bool.noConfusion z
        hd := fun _ => hr.hd
        frames := Around.frames_deeper he.frames
        stk := .inr ⟨rfl, efr⟩
        exf := fun a z => nomatch z
        bs := fun a o k => ⟨(he.bs a o k).1, fn_ (he.bs a o k).2⟩
        bsz := he.bsz
        noex := fun _ _ _ z => nomatch z
        exfs := fun a z => nomatch z
        funs := he.funs
        frf := fun a z => fn_ (he.frf a z) }
      os := rfl
      bare := he.bare
      base := Un.kept kp
      loc := ⟨_, by rw [show (lamX prog w K mg base (T.ln j) env A up s (fgt Kc H) E0).env.locals = s.heap.objs.size from eloc]; exact hns, fun i y v k1 k2 k3 => by
        have k1 : (T.ln j)[i]? = some y := k1
        obtain ⟨c, co, u, v', a1, a2, _, a4, a5, a6⟩ := at_ i y k1
        rw [List.getElem?_map, a1] at k2
        cases k2
        refine ⟨u, a6, .inr ⟨.inr ?_, c, ?_, co, kp c co (he.hok c _ a4).1, a5⟩⟩
        · show env.scope.names.lookup y = _
          rw [esc]
          exact L.has y (List.mem_of_getElem? k1)
        · show env.cells.lookup y = _
          rw [ecl]
          exact a2⟩
      cell := fun y c k => by
        obtain ⟨_, co, u, _, _, _, _, g4, g5, _⟩ := cell y c (by rw [← ecl]; exact k)
        exact ⟨some u, co, kp c co (he.hok c _ g4).1, g5⟩
      free := by
        show fgt Kc H env.locals = none
        rw [eloc]
        exact hok'.fresh (Nat.le_refl _)
      freeC := fun y c k => by
        obtain ⟨o, ho⟩ := ofK y c (by rw [← ecl]; exact k)
        exact fgt_in ho
      pin := fun p z => nomatch z
      hok := hok'.kept kp
      len := by
        show (ws.map some).length = (T.ln j).length
        rw [List.length_map]
        exact l2 }
    have tk : Takes (lamX prog w K mg base (T.ln j) env A up s (fgt Kc H) E0) (fun cl d _ H' => E0 cl d H') := takes_of rfl efr rfl rfl
    have G : GX (noL T) Glo.cl (fun cl d _ H' => E0 cl d H') (cxt T P con wl n) n ⟨T.ln j, sc, fun _ => false, false⟩ (lamX prog w K mg base (T.ln j) env A up s (fgt Kc H) E0) := {
      N := rfl
      nd := L.nd
      sc := esc
      fn := fun _ z => Bool.noConfusion z
      calm := rfl
      gd := hg
      room := hr.deeper _
      bl := M.bl
      con := M.con
      nf := rfl
      fns := fun i x e => by
        obtain ⟨h1, _, fd0, _, _, _, _, _, _, _, _, _, F0, _⟩ := M.fns i x e
        obtain ⟨fd, ps, h2, h3, h4⟩ := h i x e
        exact ⟨h1, F0.kp, fd, ps, h2, h3, h4⟩
      nx := M.nx
      exc := fun g x e => ⟨(M.exc g x e).1, rfl, (M.exc g x e).2⟩
      exk := M.exk
      sp := M.sp
      ps := fun σ => passAt tk σ
      lam := hl
      lkT := fun _ _ _ _ z => Bool.noConfusion z
      mkf := fun z => Bool.noConfusion z }
    refine PySem.W.kla_codeExpr (wpAny_mono ((okE_ok e G hok).v.run [] _ _ _ Q0 I ⟨F, ds.map some, s1, ⟨?_, fun i d z => ?_⟩, q3⟩) (fun v t z => ?_) fun _ _ z => z)
    · rw [List.length_map, List.length_map, l1, l2]
    · rw [List.getElem?_map] at z
      cases hd : ds[i]? with
      | none => rw [hd] at z; cases z
      | some d' =>
        rw [hd] at z
        cases z
        obtain ⟨v, k1, k2⟩ := rv1.get hd
        exact ⟨v, by rw [List.getElem?_map, k1]; rfl, k2⟩
    · obtain ⟨u, H2, J, rv, z⟩ := z
      exact ⟨u, H2, J.os, J.bare, J.base, J.hok, rv, z⟩
  refine codeAny_mono rc fun r t z => ?_
  cases r with
  | error u =>
    have z : L2.CX prog w up (fgt Kc H) s E0 u t := z
    rw [eE] at z
    have z := cx_lrn fre z
    rw [back] at z
    exact z
  | ok fl =>
    cases fl with
    | ret u =>
      obtain ⟨v, H2, os, bare, un, ho, rv, z⟩ := z
      rw [eQ] at z
      have un2 := un_lrn fre un
      have fre2 := fre_un fre un
      rw [back] at un2
      exact ⟨v, lrn Kc H2, os, bare, un2, fre2.hok ho, rv, z fre2.non⟩
    | _ => exact z.elim
theorem gt_of (M : Md T P con prog K mg) (TH : TabH T K mg base) {n i : Nat} {x : Str} (hi : T.fns[i]? = some x) (h : Dp T P con wl prog w K mg base n) (hl : LamG prog w K mg base Glo.cl (cxt T P con wl n) n) {N ps : List Str} {sc : Scope} {qual : Str} {f : Addr} {cd : Value} {A : Around} {up : List Env} {s : Shared} {H : Hp} {E : XK} (S : FnScope N ps sc) (hk : ∃ oc od fd' os, K.lookup (Glo.fn i) = some ⟨oc, od, .func fd', os⟩ ∧ fd'.code = cd ∧ fd'.qualname = qual) (hg : A.guards = some []) (hr : Room n (A.deeper (envOfC qual sc s.heap.objs.size f cd))) :
    GT T Glo.cl (fun cl d _ H' => E cl d H') (cxt T P con wl n) n ⟨N, sc, fun _ => true, T.mks.contains i⟩ (cxOf (L2.CX prog w) prog w K mg base N qual sc f cd A up s H E) := by
  have tk : Takes (cxOf (L2.CX prog w) prog w K mg base N qual sc f cd A up s H E) (fun cl d _ H' => E cl d H') := takes_of rfl rfl rfl rfl
  exact {
    N := rfl
    nd := S.nd
    sc := rfl
    fn := fun _ _ => rfl
    calm := rfl
    gd := hg
    room := hr
    bl := M.bl
    con := M.con
    nf := rfl
    fns := fun i x e => by
      obtain ⟨h1, _, fd0, _, _, _, _, _, _, _, _, _, F0, _⟩ := M.fns i x e
      obtain ⟨fd, ps, h2, h3, h4⟩ := h i x e
      exact ⟨h1, F0.kp, fd, ps, h2, h3, h4⟩
    nx := M.nx
    exc := fun g x e => ⟨(M.exc g x e).1, rfl, (M.exc g x e).2⟩
    exk := M.exk
    sp := M.sp
    lam := hl
    lkT := fun j ps b sc z => ⟨M.lkT j ps b sc z, congrFun M.ln j⟩
    mkf := fun z => by
      obtain ⟨oc, od, fd', os, k1, rfl, rfl⟩ := hk
      exact TH i x hi z oc od fd' os k1
    ps := fun σ => passAt tk σ
    tk := tk
    own := passes_of rfl
    stk := rfl
    frm := rfl
    kd := S.kind
    hol := M.hol
    sup := M.sup
    exm := M.exm }
theorem slo_start {F : Fr} {H : Hp} {ds : List D} {vs : List V} {N : List Str} {m : Nat} (hm : N.length = m) (r : Reps F H ds vs) : Slo F H (ds.map some ++ List.replicate (m - ds.length) none) (start N vs) := by
  subst hm
  unfold L2.start
  refine ⟨by simp [r.length], fun i d e => ?_⟩
  by_cases hi : i < ds.length
  · rw [List.getElem?_append_left (by simpa using hi), List.getElem?_map] at e
    cases h : ds[i]? with
    | none => rw [h] at e; cases e
    | some d' =>
      rw [h] at e
      cases e
      obtain ⟨v, e1, e2⟩ := r.get h
      refine ⟨v, ?_, e2⟩
      rw [List.getElem?_append_left (by rw [List.length_map, ← r.length]; exact hi), List.getElem?_map, e1]
      rfl
  · rw [List.getElem?_append_right (by simpa using hi), List.getElem?_replicate] at e
    split at e <;> cases e
theorem dp_all (M : Md T P con prog K mg) (TH : TabH T K mg base) : ∀ n, Dp T P con wl prog w K mg base n ∧ LamG prog w K mg base Glo.cl (cxt T P con wl n) n
  | 0 => ⟨fun f x e => by
    obtain ⟨_, fn, fd, _, _, _, _, _, ps, _, _, _, _, _, _, _, _, hB, hK⟩ := M.fns f x e
    have no : ∀ xs H Q E, ¬ spF Glo.cl (cxt T P con wl 0) f xs H Q E := fun xs H Q E ⟨F, ds, _, _, z⟩ => z
    exact ⟨fd, ps, ⟨fun xs H Q E z => (no _ _ _ _ z).elim, fun A up s H args us xs Q E _ _ _ _ _ z => (no _ _ _ _ z).elim⟩, hB, hK⟩,
    fun j A up s H F ds xs f vs us Q E _ _ _ _ _ _ _ _ _ _ z => z.elim⟩
  | n + 1 => ⟨fun f x e => by
    obtain ⟨_, fn, fd, qual, pr, b, sc, N, ps, dvs, kws, hP, D, S, hps, hN, hok, hB, hK⟩ := M.fns f x e
    obtain ⟨ih, il⟩ := dp_all M TH n
    have key : ∀ {F : Fr} {ds : List MP.D}, (cxt T P con wl (n + 1)).cal f ds F.st = run1 (cxt T P con wl n) fn ds F.st := fun {F ds} => by
      show run P con wl T.fns.length (n + 1) f ds F.st = _
      rw [run, hP]
      rfl
    have hw : ∀ (xs : List V) (H : Hp) (Q : VK) (E : XK), spF Glo.cl (cxt T P con wl (n + 1)) f xs H Q E → xs.length = ps.length := fun xs H Q E ⟨F, ds, hs, r, q⟩ => by
      rw [key] at q
      unfold run1 at q
      split at q
      · rw [← r.length, hps]
        assumption
      · exact q.elim
    rcases Bool.or_eq_true_iff.mp hok with hok | hok
    · refine ⟨fd, ps, fnG_of D S hw (fun cd A up s H xs Q E hk hg hr ⟨F, ds, hs, r, q⟩ => ?_), hB, hK⟩
      rw [key] at q
      unfold run1 at q
      split at q
      · refine ⟨_, okSts_ok fn.body (gt_of M TH e ih il S hk hg hr) hok, F, _, hs, slo_start hN r, ?_⟩
        cases hx : exs (cxt T P con wl n) fn.body (ds.map some ++ List.replicate (fn.sl - ds.length) none) F.st with
        | nx ρ st =>
          rw [hx] at q
          exact fun F' H' σ' e x s' l' => q F' H' .non e x s' rfl
        | rt d st =>
          rw [hx] at q
          exact fun F' H' v e x s' l' => q F' H' v e x s' l'
        | exc k d ρ st =>
          rw [hx] at q
          exact fun F' H' σ' dx v e x s' l' h1 h2 h3 h4 => q F' H' dx v e x s' h1 h2 h3 h4
        | bk ρ st => rw [hx] at q; exact q.elim
        | ct ρ st => rw [hx] at q; exact q.elim
        | bad => rw [hx] at q; exact q.elim
      · exact q.elim
    · refine ⟨fd, ps, fnG_run D S hw (fun cd A up s H xs Q E hk hg hr ⟨F, ds, hs, r, q⟩ s1 I0 => ?_), hB, hK⟩
      have G := (gt_of (E := E) (H := H) (up := up) M TH e ih il S hk hg hr).toGX
      obtain ⟨js, ia, eb, hIs, go⟩ := mk_run G hok
      rw [key] at q
      unfold run1 at q
      split at q
      rotate_left
      · exact q.elim
      simp only [eb, exs, ex] at q
      cases hm : mkls (ds.map some ++ List.replicate (fn.sl - ds.length) none) js with
      | none => rw [hm] at q; exact q.elim
      | some cs =>
        rw [hm] at q
        refine thn (go [] s1 _ H I0 hs.tab) fun fl s2 ⟨al, H1, fs, efl, I1, Dn1⟩ => ?_
        subst efl
        obtain ⟨X, eX⟩ : ∃ X : Cx, X = cxOf (L2.CX prog w) prog w K mg base N qual sc (Glo.fn f) cd A up s H E := ⟨_, rfl⟩
        rw [← eX] at I1 Dn1 hIs
        have efs : X.fs = frs up := by rw [eX] <;> rfl
        have efn : X.fn = fun _ => true := by rw [eX] <;> rfl
        have eN : X.N = N := by rw [eX] <;> rfl
        have e_0 : X.s_0 = s := by rw [eX] <;> rfl
        have eH : X.H_0 = H := by rw [eX] <;> rfl
        have eex : X.ex = [] := by rw [eX] <;> rfl
        obtain ⟨Kc, eK⟩ : ∃ Kc : List (Addr × Obj), Kc = obK s2.heap (X.env.cells.filterMap fun p => X.env.cells.lookup p.1) := ⟨_, rfl⟩
        have inK : ∀ a o, Kc.lookup a = some o → (∃ y, X.env.cells.lookup y = some a) ∧ s2.heap.get? a = some o := fun a o ha => by
          rw [eK] at ha
          obtain ⟨m, ho⟩ := obK_in ha
          obtain ⟨p, _, hp⟩ := List.mem_filterMap.mp m
          exact ⟨⟨p.1, hp⟩, ho⟩
        have big : ∀ a o, Kc.lookup a = some o → s.heap.objs.size ≤ a := fun a o ha => by
          obtain ⟨⟨y, hy⟩, _⟩ := inK a o ha
          have z := I1.ok.cab y a (by rw [efn]) hy
          rw [e_0] at z
          exact z
        have fre : Fre Kc (frs up) H1 s2.heap := ⟨fun a o ha => I1.freeC _ a (inK a o ha).1.choose_spec, fun a o ha => (inK a o ha).2, fun a o ha hb => by
          obtain ⟨_, o', ho', _⟩ := I1.ok.funs.mem (show a ∈ X.fs by rw [efs]; exact hb)
          rw [e_0] at ho'
          exact absurd (Heap.lt_size ho') (Nat.not_lt.mpr (big a o ha))⟩
        obtain ⟨x1, st1⟩ := sto_extN hs Dn1.ext Dn1.back Dn1.tabs
        have x2 := x1.trans (fre.xt (F := F))
        have st2 := fre.sto st1
        have hl := slo_start (N := N) hN r
        have un := I1.base
        rw [efs, eex, eH, e_0] at un
        have os := I1.os
        rw [e_0] at os
        have rr : Reps F (lrn Kc H1) cs (fs.map V.ref) := clos_rep eN I1 hl st2 x2 (fun a o z => fre.ext z) (fun y c co hy ho => by
          have z : Kc.lookup c = some co := by
            rw [eK]
            exact obK_of ho (List.mem_filterMap.mpr ⟨(y, c), PySem.mem_of_lookup hy, hy⟩)
          exact ⟨lrn_in z, fre.un st1 z⟩) (fun a z => hs.nun z) Dn1.fos hIs hm
        have hp := I1.hok
        rw [show X.prog = prog from by rw [eX] <;> rfl, show X.w = w from by rw [eX] <;> rfl] at hp
        refine ⟨.ref al, lrn Kc H1, os, I1.bare, ⟨un.keep, un.slot, fun b o z1 z2 z3 => ?_, un.there, fun b xs z => fre.ext (un.tups b xs z), fun b o v z => fre.ext (un.frzs b o v z), fun b qs z => ?_⟩, fre.hok hp, rfl, q F _ (.ref al) rfl x2 st2 ⟨al, _, rfl, hs.nun Dn1.new, fre.ext Dn1.lst, rr⟩⟩
        · cases zz : Kc.lookup b with
          | none => rw [lrn_out zz]; exact un.free b o z1 z2 z3
          | some o' => exact absurd (Heap.lt_size z1) (Nat.not_lt.mpr (big b o' zz))
        · obtain ⟨m, z⟩ := un.tbls b qs z
          exact ⟨m, fre.ext z⟩,
    lam_step M (dp_all M TH n).1 (dp_all M TH n).2⟩
end
end MP
end
section
set_option maxRecDepth 100000
set_option maxHeartbeats 4000000
/-! MPHead: what the head tells, read by a look. -/
namespace MP
open PySem PySem.W PySem.Calls PyProof.Rows PySem.HandSPX L2
/-! ### the text of __init__ -/
def asInit : FuncBody → Option (List Pos)
  | .stmts [.Expr (.Call (.Attribute (.Call (.Name s p0) [] [] p1) i p2) [.Name v p3] [] p4) p5, .Assign [.Attribute (.Name sf p6) v2 p7] (.Name v3 p8) p9] =>
    if s = "super" ∧ i = "__init__" ∧ v = "value" ∧ sf = "self" ∧ v2 = "value" ∧ v3 = "value" then some [p0, p1, p2, p3, p4, p5, p6, p7, p8, p9] else none
  | _ => none
theorem asInit_eq {b : FuncBody} {p : List Pos} (h : asInit b = some p) : b = .stmts (initBody p) := by
  unfold asInit at h
  split at h
  · split at h
    · rename_i e
      obtain ⟨rfl, rfl, rfl, rfl, rfl, rfl⟩ := e
      cases h
      rfl
    · cases h
  · cases h
def initArgs : Arguments → Bool
  | ⟨[], [⟨s, _, _⟩, ⟨v, _, _⟩], none, [], [], none, [_]⟩ => decide (s = ("self" : Str)) && decide (v = ("value" : Str))
  | _ => false
theorem initArgs_eq {a : Arguments} (h : initArgs a = true) : ∃ a1 p1 a2 p2 d, a = ⟨[], [⟨"self", a1, p1⟩, ⟨"value", a2, p2⟩], none, [], [], none, [d]⟩ := by
  unfold initArgs at h
  split at h
  · rw [Bool.and_eq_true, decide_eq_true_eq, decide_eq_true_eq] at h
    obtain ⟨rfl, rfl⟩ := h
    exact ⟨_, _, _, _, _, rfl⟩
  · cases h
def oneDflt (K : Frag) (v : Value) : Bool := match v with
  | .ref T => (match K.lookup T with
    | some ⟨_, _, .seq its _, _⟩ => (match its.toList with
      | [_] => true
      | _ => false)
    | _ => false)
  | _ => false
theorem oneDflt_eq {K : Frag} {v : Value} (h : oneDflt K v = true) : ∃ T o d n, v = .ref T ∧ K.lookup T = some o ∧ o.data = .seq #[d] n := by
  unfold oneDflt at h
  split at h
  · split at h
    · rename_i e
      split at h
      · rename_i its m _ _ d hd
        have e2 : its = #[d] := by rw [← Array.toArray_toList (xs := its), hd]
        rw [e2] at e
        exact ⟨_, _, d, m, rfl, e, rfl⟩
      · cases h
    · cases h
  · cases h
theorem init_binds {K : Frag} {fd : FuncData} (h1 : initArgs fd.params = true) (h2 : oneDflt K fd.defaults = true) (s : Shared) (a b : Value) (X : K.In s.heap) : BindsTo s fd ⟨[a, b], []⟩ [("self", a), ("value", b)] := by
  obtain ⟨a1, p1, a2, p2, d, ea⟩ := initArgs_eq h1
  obtain ⟨T, o, dv, m, eT, lT, oT⟩ := oneDflt_eq h2
  refine BindsTo.of_looks fun M => ?_
  obtain ⟨n1, n2, n3, n4, n5, n6, n7, n8, n9, n10, n11, n12, n13, n14, n15⟩ := fd
  simp only at ea eT
  subst ea eT
  have : ∃ k, bindArgs ⟨n1, n2, ⟨[], [⟨"self", a1, p1⟩, ⟨"value", a2, p2⟩], none, [], [], none, [d]⟩, n4, n5, n6, n7, .ref T, n9, n10, n11, n12, n13, n14, n15⟩ ⟨[a, b], []⟩ = seqItems? (.ref T) >>= k ∧ k (some #[dv]) = (pure [(("self" : Str), a), (("value" : Str), b)] : Sem (List (Str × Value))) := ⟨_, rfl, by with_unfolding_all rfl⟩
  obtain ⟨k, e1, e2⟩ := this
  rw [e1]
  exact looks_items X lT oT (.of_pure e2)
/-! ### code, closure -/
def codeB (K : Frag) (file q : Str) : Value → Bool
  | .ref cd => (match K.lookup cd with
    | some ⟨_, _, .fields vs, _⟩ => (match (vs[1]? : Option Value), (vs[2]? : Option Value) with
      | some (Value.str q' _), some (Value.str fl _) => decide (q' = q) && (file == fl)
      | _, _ => false)
    | _ => false)
  | _ => false
theorem codeB_eq {K : Frag} {file q : Str} {v : Value} (h : codeB K file q v = true) : ∃ cd oc od vs fl tf osl tq, v = .ref cd ∧ K.lookup cd = some ⟨oc, od, .fields vs, osl⟩ ∧ vs[1]? = some (.str q tq) ∧ vs[2]? = some (.str fl tf) ∧ (file == fl) = true := by
  unfold codeB at h
  split at h
  · split at h
    · rename_i e
      split at h
      · rename_i e1 e2
        rw [Bool.and_eq_true, decide_eq_true_eq] at h
        obtain ⟨rfl, h2⟩ := h
        exact ⟨_, _, _, _, _, _, _, _, rfl, e, e1, e2, h2⟩
      · cases h
    · cases h
  · cases h
def closB (K : Frag) (C : Addr) : List (Str × Addr) → Bool
  | [(n, cc)] => decide (n = ("__class__" : Str)) && (match K.lookup cc with
    | some ⟨_, _, .cell (some (.ref D)), _⟩ => (clsIn K D).isSome && (decide (mroIn K C (.ref D) = some true) && decide (ks_superIn K C D "__init__" = some (some (.builtin "ValueError.__init__"))))
    | _ => false)
  | _ => false
theorem closB_eq {K : Frag} {C : Addr} {l : List (Str × Addr)} (h : closB K C l = true) : ∃ cc D oc od osl cdD, l = [(("__class__" : Str), cc)] ∧ K.lookup cc = some ⟨oc, od, .cell (some (.ref D)), osl⟩ ∧ clsIn K D = some cdD ∧ mroIn K C (.ref D) = some true ∧ ks_superIn K C D "__init__" = some (some (.builtin "ValueError.__init__")) := by
  unfold closB at h
  split at h
  · rw [Bool.and_eq_true, decide_eq_true_eq] at h
    obtain ⟨rfl, h⟩ := h
    split at h
    · rename_i e
      simp only [Bool.and_eq_true, decide_eq_true_eq] at h
      obtain ⟨h1, h2, h3⟩ := h
      obtain ⟨cdD, e1⟩ := Option.isSome_iff_exists.mp h1
      exact ⟨_, _, _, _, _, cdD, rfl, e, e1, h2, h3⟩
    · cases h
  · cases h
def initScB (sc : Scope) : Bool := decide (sc.kind = .function) && (!sc.isCoroutine && (!sc.isGenerator && ((sc.names.all fun x => !decide (x.2 = .cell)) && (decide (sc.names.lookup ("self" : Str) = some .local) && (decide (sc.names.lookup ("value" : Str) = some .local) &&
  (decide (sc.names.lookup ("super" : Str) = some .globalImplicit) && decide (sc.names.lookup ("__class__" : Str) = some .free)))))))
def initFB (file : Str) (K : Frag) (C : Addr) (fd : FuncData) : Bool := initScB fd.scope && ((match asInit fd.body with
  | some p => (p.getD 2 default).endLine == (p.getD 4 default).line
  | none => false) && (initArgs fd.params && (oneDflt K fd.defaults && (decide (fd.globals = mainGlobals) && (decide (fd.builtins = builtinsNs) && (codeB K file fd.qualname fd.code && (closB K C fd.closure &&
    (decide (nsIn K cStatics "thirdparty.any" = some none) && decide (subIn K (.ref C) (.type "ValueError") = some true)))))))))
theorem initF_by {prog : Program} {K : Frag} {C f : Addr} {fd : FuncData} (lk : ∃ oc od osl, K.lookup f = some ⟨oc, od, .func fd, osl⟩) (ht : (prog.main.scope.names.lookup ("super" : Str)).isSome = false) (h : initFB prog.main.file K C fd = true) : InitF prog K C f fd := by
  unfold initFB initScB at h
  simp only [Bool.and_eq_true, Bool.not_eq_true', decide_eq_true_eq, List.all_eq_true, decide_eq_false_iff_not] at h
  obtain ⟨⟨s1, s2, s3, s4, s5, s6, s7, s8⟩, h2, h3, h4, h5, h6, h7, h8, h9, h10⟩ := h
  obtain ⟨a1, p1, a2, p2, d, ea⟩ := initArgs_eq h3
  refine ⟨lk, ?_, s1, s2, s3, s4, s5, s6, s7, s8, ⟨⟨"self", a1, p1⟩, by rw [ea]; rfl, rfl⟩, h5, h6, codeB_eq h7, closB_eq h8, ht, h9, h10, fun s a b X => init_binds h3 h4 s a b X⟩
  split at h2
  · rename_i p e
    exact ⟨p, asInit_eq e, h2⟩
  · cases h2
/-! ### a class -/
def fnAt (K : Frag) (f : Addr) : Option FuncData := match K.lookup f with
  | some ⟨_, _, .func fd, _⟩ => some fd
  | _ => none
theorem fnAt_eq {K : Frag} {f : Addr} {fd : FuncData} (h : fnAt K f = some fd) : ∃ oc od osl, K.lookup f = some ⟨oc, od, .func fd, osl⟩ := by
  unfold fnAt at h
  split at h
  · rename_i e
    cases h
    exact ⟨_, _, _, e⟩
  · cases h
def veCls (K : Frag) (C : Addr) : Bool := match K.lookup C with
  | some ⟨.type t, _, .cls cd, sl⟩ => decide (t = "type") && (match cd.mro, sl.toList with
    | .ref C' :: bm, [_, _, _, _, some (.builtin n), _] => decide (C' = C) && (decide (n = "ValueError.__new__") && (!cd.hasDel && (cd.hasDict && PySem.HandSPX.refsVE bm)))
    | _, _ => false)
  | _ => false
theorem veCls_eq {K : Frag} {C : Addr} (h : veCls K C = true) : ∃ nm q N bs bm sn sub ab col dd k0 k1 k2 k3 k5, K.lookup C = some (excClassObj nm q C N bs bm true sn sub ab col dd k0 k1 k2 k3 k5 "ValueError.__new__") ∧ PySem.HandSPX.refsVE bm = true := by
  unfold veCls at h
  split at h
  · rename_i t dd cd sl ho
    rw [Bool.and_eq_true, decide_eq_true_eq] at h
    obtain ⟨rfl, h⟩ := h
    split at h
    · rename_i C' bm k0 k1 k2 k3 n k5 hm hs
      simp only [Bool.and_eq_true, Bool.not_eq_true', decide_eq_true_eq] at h
      obtain ⟨rfl, rfl, h1, h2, h3⟩ := h
      obtain ⟨nm, bs, mro, ns, q, hd, sn, sub, ab, col, del⟩ := cd
      dsimp only at hm h1 h2
      subst hm h1 h2
      have e : sl = #[k0, k1, k2, k3, some (.builtin "ValueError.__new__"), k5] := by rw [← Array.toArray_toList (xs := sl), hs]
      rw [e] at ho
      exact ⟨nm, q, ns, bs, bm, sn, sub, ab, col, dd, k0, k1, k2, k3, k5, ho, h3⟩
    · cases h
  · cases h
def holeB (file : Str) (K : Frag) (C : Addr) : Bool := veCls K C && (decide (findIn K (.ref C) "__setattr__" = some (some (.builtin "object.__setattr__"))) && (decide (subIn K (.ref C) (.type "BaseException") = some true) && (decide (typeIn K (.ref C) = some (.type "type")) && (keepIn K (.ref C) &&
  (decide (findIn K (.ref C) "value" = some none) && (match findIn K (.ref C) "__init__" with
    | some (some (.ref f)) => decide (typeIn K (.ref f) = some (.type "function")) && (match fnAt K f with
      | some fd => initFB file K C fd
      | none => false)
    | _ => false))))))
theorem hole_by {prog : Program} {K : Frag} {C : Addr} (ht : (prog.main.scope.names.lookup ("super" : Str)).isSome = false) (h : holeB prog.main.file K C = true) : HoleC prog K C := by
  unfold holeB at h
  simp only [Bool.and_eq_true, decide_eq_true_eq] at h
  obtain ⟨h1, h2, h3, h4, h5, h6, h7⟩ := h
  split at h7
  · rename_i f e
    rw [Bool.and_eq_true, decide_eq_true_eq] at h7
    obtain ⟨h7, h8⟩ := h7
    split at h8
    · rename_i fd e2
      exact ⟨⟨veCls_eq h1, h2, h3, h4, h5⟩, ⟨f, fd, e, h7, initF_by (fnAt_eq e2) ht h8⟩, h6⟩
    · cases h8
  · cases h7
def exfB (K : Frag) (C : Addr) : Bool := (clsIn K C).isSome && (decide (findIn K (.ref C) "__getattribute__" = some (some (.builtin "BaseException.__getattribute__"))) && (decide (findIn K (.ref C) "__getattr__" = some none) && (decide (subIn K (.ref C) (.type "BaseException") = some true) &&
  (decide (findIn K (.ref C) "__class__" = some (some (.builtin "object.__class__"))) && (decide (mroIn K C (.type "object") = some true) && (hasDictIn K C && (decide (findIn K (.ref C) "value" = some none) && decide (kitOne K (.ref C) (.type "ValueError") = some true))))))))
theorem exf_by {K : Frag} {C : Addr} (h : exfB K C = true) : ExF K C := by
  unfold exfB at h
  simp only [Bool.and_eq_true, decide_eq_true_eq] at h
  obtain ⟨h1, h2, h3, h4, h5, h6, h7, h8, h9⟩ := h
  exact ⟨h1, h2, h3, h4, h5, h6, h7, h8, h9⟩
/-- all that is to be known of the classes named xs -/
def clsB (file : Str) (xs : List Str) (K : Frag) : Bool := (xs.all fun x => (He.Fa.glo x).ok K && (holeB file K (He.ga K x) && exfB K (He.ga K x))) && (((List.range xs.length).all fun g => (List.range xs.length).all fun k =>
    decide (kitOne K (.ref (He.ga K (xs.getD g Str.empty))) (.ref (He.ga K (xs.getD k Str.empty))) = some (decide (g = k) || decide (k = 0))) && decide (exmOne K (.ref (He.ga K (xs.getD g Str.empty))) (.ref (He.ga K (xs.getD k Str.empty))) = some (decide (g = k) || decide (k = 0)))) &&
  (decide (specialIn K (.builtin "object.__class__") "__get__" = some (some (.builtin "getset_descriptor.__get__"))) && decide (takesIn K (.builtin "object.__class__") = some true)))
/-! ### the hook: no list of the module's -/
def isLst : Obj → Bool
  | ⟨.type t, _, .seq _ _, _⟩ => decide (t = "list")
  | _ => false
def asM (g : Addr → Option Obj) : Nat → List Addr
  | 0 => [mainGlobals, cStatics]
  | n + 1 => He.growD g (asM g n)
def frM (g : Addr → Option Obj) (as : List Addr) : Frag := (He.frG g as).filter fun q => !(isLst q.2 || He.emptyTab q.2)
theorem lookM {a : Addr} {o : Obj} : ∀ {l : List (Addr × Obj)}, l.lookup a = some o → (a, o) ∈ l
  | [], h => nomatch h
  | (b, u) :: r, h => by
    rw [List.lookup_cons] at h
    split at h
    · rename_i e
      cases h
      rw [beq_iff_eq.mp e]
      exact List.mem_cons_self
    · exact List.mem_cons_of_mem _ (lookM h)
theorem frM_at {g : Addr → Option Obj} {as : List Addr} {a : Addr} {o : Obj} (h : (frM g as).lookup a = some o) : g a = some o ∧ isLst o = false ∧ He.emptyTab o = false := by
  obtain ⟨h1, h2⟩ := List.mem_filter.mp (lookM h)
  unfold He.frG at h1
  obtain ⟨b, _, e⟩ := List.mem_filterMap.mp h1
  obtain ⟨u, e1, e2⟩ := Option.map_eq_some_iff.mp e
  cases e2
  exact ⟨e1, by simpa using h2⟩
/-- what is told of the heap h: no list, no empty table is leant on; the tables of the defs tf are empty -/
structure SaysM (fa : List He.Fa) (fn : List He.DefD) (tf : List He.Defn) (ex : Frag → Bool) (h : Heap) (K : Frag) : Prop where
  d : He.SaysD fa fn K
  more : ex K = true
  nol : ∀ a o, K.lookup a = some o → isLst o = false
  code : ∀ p ∈ tf, codeHdIn K (He.cT K p).1 (He.cT K p).2 = true
  away : ∀ p ∈ tf, K.lookup (He.cT K p).2 = none
  zero : ∀ p ∈ tf, h.get? (He.cT K p).2 = some { cls := .none, data := .fields #[] }
def obsM (n : Nat) (fa : List He.Fa) (fn : List He.DefD) (tf : List He.Defn) (ex : Frag → Bool) (g : Addr → Option Obj) : He.AlD × Bool := (He.obsD fa fn (frM g (asM g n)), ex (frM g (asM g n)) && He.tabsB g tf (frM g (asM g n)))
theorem saysM_of {fa : List He.Fa} {fn : List He.DefD} {tf : List He.Defn} {ex : Frag → Bool} {h : Heap} {as : List Addr} (e1 : He.obsD fa fn (frM h.get? as) = He.valD fn) (e2 : (ex (frM h.get? as) && He.tabsB h.get? tf (frM h.get? as)) = true) : SaysM fa fn tf ex h (frM h.get? as) := by
  rw [Bool.and_eq_true] at e2
  obtain ⟨e2, e3⟩ := e2
  unfold He.tabsB at e3
  simp only [List.all_eq_true, Bool.and_eq_true] at e3
  have at_ : ∀ p ∈ tf, ∃ o, h.get? (He.cT (frM h.get? as) p).2 = some o ∧ He.emptyTab o = true := fun p hp => by
    obtain ⟨_, z⟩ := e3 p hp
    split at z
    · rename_i o ho
      exact ⟨o, ho, z⟩
    · cases z
  refine ⟨e1, e2, fun _ _ q => (frM_at q).2.1, fun p hp => (e3 p hp).1, fun p hp => ?_, fun p hp => ?_⟩
  · obtain ⟨o, ho, z⟩ := at_ p hp
    cases q : (frM h.get? as).lookup (He.cT (frM h.get? as) p).2 with
    | none => rfl
    | some u =>
      obtain ⟨k1, _, k2⟩ := frM_at q
      rw [ho] at k1
      cases k1
      rw [z] at k2
      cases k2
  · obtain ⟨o, ho, z⟩ := at_ p hp
    rw [ho, He.emptyTab_eq z]
def hookM (n : Nat) (fa : List He.Fa) (fn : List He.DefD) (tf : List He.Defn) (ex : Frag → Bool) : Hook where
  α := He.AlD × Bool
  obs := fun s => obsM n fa fn tf ex s.heap.get?
  val := fun _ => (He.valD fn, true)
  says := fun _ h => ∃ K : Frag, K.In h ∧ SaysM fa fn tf ex h K
  of := fun _ s e => ⟨frM s.heap.get? (asM s.heap.get? n), fun _ _ q => (frM_at q).1, saysM_of (congrArg Prod.fst e) (congrArg Prod.snd e)⟩
  keeps := fun _ _ _ ⟨K, hK, c⟩ k => ⟨K, Frag.In.keeps hK k, c.d, c.more, c.nol, c.code, c.away, fun p hp => k _ _ (c.zero p hp)⟩
theorem obsM_eq {n : Nat} {fa : List He.Fa} {fn : List He.DefD} {tf : List He.Defn} {ex : Frag → Bool} {g : Addr → Option Obj} {s : Shared} (h : ∀ a, g a = s.heap.get? a) : obsM n fa fn tf ex g = (hookM n fa fn tf ex).obs s := by
  rw [show g = s.heap.get? from funext h]
  rfl
end MP
end
section
set_option maxRecDepth 100000
set_option maxHeartbeats 4000000
/-! MPEnd: a law's end. -/
namespace MP
open PySem PySem.W PySem.Calls PyProof.Rows L2
/-! ### the table -/
structure Ent where
  d : He.DefD
  N : List Str
  ps : List Str
  fn : Fn
  /-- it makes lambdas -/
  ml : Bool
def entB (T : Tab) (e : Ent) : Bool := C8.scC e.N e.ps e.d.scope && (decide (e.ps.length = e.fn.ar) && (decide (e.N.length = e.fn.sl) && okB T ⟨e.N, e.d.scope, fun _ => true, e.ml⟩ e.fn.body e.d.body))
def plainD (e : Ent) : Bool := decide (e.d.at_ = (e.d.name, none)) && (e.d.dfl.isEmpty && e.d.kwd.isEmpty)
def mkN (T : Tab) : List He.Defn := T.mks.map fun i => (T.fns.getD i Str.empty, none)
def tabN (K : Frag) (p : He.Defn) : Addr × Str := ((He.cT K p).2, p.1 ++ ".<locals>." ++ "<lambda>")
@[reducible] def gloOf (K : Frag) (T : Tab) : Glo := ⟨fun i => He.ga K (T.fns.getD i Str.empty), fun i => He.ga K (T.exc.getD i Str.empty), T.exc.length, T.lk, T.ln, (mkN T).map (tabN K)⟩
/-- no table serves two of them -/
def tabU (T : Tab) (K : Frag) : Bool := (mkN T).all fun p => (mkN T).all fun q => !decide ((He.cT K p).2 = (He.cT K q).2) || decide (p.1 = q.1)
def exM (file : Str) (T : Tab) (K : Frag) : Bool := clsB file T.exc K && tabU T K
/-- a call that gives all parameters binds them -/
def BindE (e : Ent) : Prop := ∀ (kV doc pm : Value) (an : Option Addr) (cdv ct : Value) (us : List Value), us.length = e.ps.length → bindArgs (fnOf e.d.name e.d.qual e.d.params e.d.body e.d.scope .none kV doc pm an cdv ct) ⟨us, []⟩ = pure (e.ps.zip us)
/-- .. with keywords -/
def BindK (e : Ent) (m : Nat) (ks : List Str) (ix : List Nat) : Prop := ∀ (kV doc pm : Value) (an : Option Addr) (cdv ct : Value) (us ws : List Value), us.length = m → ws.length = ks.length → ∃ zs, pick ix (us ++ ws) = some zs ∧ bindArgs (fnOf e.d.name e.d.qual e.d.params e.d.body e.d.scope .none kV doc pm an cdv ct) ⟨us, ks.zip ws⟩ = pure (e.ps.zip zs)
structure Given (es : List Ent) (fl : List Fn) (T : Tab) (con : Nat → Option MP.D) (fa : List He.Fa) (prog : Program) : Prop where
  fns : T.fns = es.map fun e => e.d.name
  pl : es.all plainD = true
  ok : ∀ (i : Nat) (e : Ent), es[i]? = some e → entB T e = true
  bind : ∀ (i : Nat) (e : Ent), es[i]? = some e → BindE e
  kws : ∀ (i : Nat) (e : Ent) (m : Nat) (ks : List Str) (ix : List Nat), es[i]? = some e → (i, m, ks, ix) ∈ T.kws → BindK e m ks ix
  glo : ∀ e ∈ es, He.Fa.glo e.d.name ∈ fa
  free : ∀ x ∈ bnames, He.Fa.free x ∈ fa
  sup : He.Fa.free "super" ∈ fa
  con : ∀ (g : Nat) (x : Str) (d : D), T.con[g]? = some x → con g = some d → ∃ i, d = .int i ∧ He.Fa.int x i ∈ fa
  top : (prog.main.scope.names.lookup ("super" : Str)).isSome = false
  trees : ∀ (i : Nat) (e : Ent), es[i]? = some e → fl[i]? = some e.fn
  ml : ∀ (i : Nat) (e : Ent), es[i]? = some e → T.mks.contains i = e.ml
  qn : es.all (fun e => decide (e.d.qual = e.d.name)) = true
  lam : ∀ j ps b sc, T.lk j ps b sc = true → lamB T (fun i => fl[i]?) j ps b sc = true
theorem md_of {es : List Ent} {fl : List Fn} {T : Tab} {con : Nat → Option D} {fa : List He.Fa} {prog : Program} {K : Frag} {h : Heap} {mg : Str → Option Value} (G : Given es fl T con fa prog) (X : K.In h) (N : h.Ns mainGlobals mg) (c : He.SaysD fa (es.map (·.d)) K) (hc : clsB prog.main.file T.exc K = true) :
    @Md (gloOf K T) T (fun i => fl[i]?) con prog K mg := by
  letI : Glo := gloOf K T
  have fact : ∀ {f : He.Fa}, f ∈ fa → f.ok K = true := fun {f} hf => by
    obtain ⟨i, hi, e⟩ := List.mem_iff_getElem.mp hf
    exact c.fact i (f := f) (by rw [List.getElem?_eq_getElem hi, e])
  unfold clsB at hc
  simp only [Bool.and_eq_true, List.all_eq_true, decide_eq_true_eq] at hc
  obtain ⟨h1, h2, h3, h4⟩ := hc
  have gd : ∀ {g : Nat} {x : Str}, T.exc[g]? = some x → T.exc.getD g Str.empty = x ∧ x ∈ T.exc ∧ g < T.exc.length := fun {g x} e => ⟨by rw [List.getD_eq_getElem?_getD, e]; rfl, List.mem_of_getElem? e, (List.getElem?_eq_some_iff.mp e).1⟩
  have cl : ∀ {g : Nat} {x : Str}, T.exc[g]? = some x → Glo.cl g = He.ga K x := fun {g x} e => congrArg (He.ga K) (gd e).1
  exact {
    bl := fun x hx => He.free_ok X N (fact (G.free x hx))
    con := fun g x d e q => by
      obtain ⟨i, rfl, hf⟩ := G.con g x d e q
      obtain ⟨t, ht⟩ := He.int_ok X N (fact hf)
      exact ⟨_, .int i, ht, ⟨t, rfl⟩, fun _ _ => rfl⟩
    fns := fun f x e => by
      rw [G.fns, List.getElem?_map] at e
      cases he : es[f]? with
      | none => rw [he] at e; cases e
      | some en =>
        rw [he] at e
        cases e
        have hm := List.mem_of_getElem? he
        have efn : Glo.fn f = He.ga K en.d.name := congrArg (He.ga K) (by rw [G.fns, List.getD_eq_getElem?_getD, List.getElem?_map, he]; rfl)
        obtain ⟨p1, p2⟩ := Bool.and_eq_true_iff.mp (List.all_eq_true.mp G.pl en hm)
        obtain ⟨p2, p3⟩ := Bool.and_eq_true_iff.mp p2
        have p1 := of_decide_eq_true p1
        have p2 := List.isEmpty_iff.mp p2
        have p3 := List.isEmpty_iff.mp p3
        obtain ⟨fd, F⟩ := c.def_ f (d := en.d) (by rw [List.getElem?_map, he]; rfl)
        have ea : He.fAd K en.d.at_ = He.ga K en.d.name := by rw [p1]; rfl
        have e1 : en.d.dvs K = [] := by unfold He.DefD.dvs; rw [p2]; rfl
        have e2 : en.d.kws K = [] := by unfold He.DefD.kws; rw [p3]; rfl
        rw [ea, e1, e2] at F
        have ok := G.ok f en he
        unfold entB at ok
        simp only [Bool.and_eq_true, decide_eq_true_eq] at ok
        obtain ⟨o1, o2, o3, o4⟩ := ok
        rw [efn]
        refine ⟨He.glo_ok X N (fact (G.glo en hm)), en.fn, fd, _, _, _, _, en.N, en.ps, _, _, G.trees f en he, F, C8.fnScope_by o1, o2, o3, by rw [G.ml f en he]; exact o4, F.bindsN (G.bind f en he), fun m ks ix hk => ?_⟩
        obtain ⟨oc, od, dV, kV, doc, pm, an, cdv, ct, osl, rfl, lk, hcd, hD, hK⟩ := F.ex
        rcases hD with ⟨_, rfl⟩ | ⟨z, _⟩
        · intro s us ws zs _ l1 l2 hp
          obtain ⟨zs', e3, e4⟩ := G.kws f en m ks ix he hk kV doc pm an cdv ct us ws l1 l2
          rw [hp] at e3
          cases e3
          exact BindsTo.of_looks fun M => by
            rw [e4]
            exact .of_pure rfl
        · exact absurd rfl z
    nx := rfl
    exc := fun g x e => by
      obtain ⟨k1, k2, k3⟩ := h1 x (gd e).2.1
      rw [cl e]
      exact ⟨He.glo_ok X N k1, exf_by k3⟩
    exk := fun g k hg hk => (h2 g (List.mem_range.mpr hg) k (List.mem_range.mpr hk)).1
    sp := ⟨h3, h4⟩
    hol := fun k x e => by
      obtain ⟨_, k2, _⟩ := h1 x (gd e).2.1
      rw [cl e]
      exact hole_by G.top k2
    sup := He.free_ok X N (fact G.sup)
    exm := fun g k hg hk => (h2 g (List.mem_range.mpr hg) k (List.mem_range.mpr hk)).2
    lam := fun j ps b sc z => lamB_ok (G.lam j ps b sc z)
    lkT := fun _ _ _ _ z => z
    ln := rfl }
/-- the tables, told of a base -/
theorem tabH_of {es : List Ent} {fl : List Fn} {T : Tab} {con : Nat → Option D} {fa : List He.Fa} {prog : Program} {K : Frag} {mg : Str → Option Value} {base : Heap} (G : Given es fl T con fa prog) (c : He.SaysD fa (es.map (·.d)) K) (hu : tabU T K = true) (tb : ∀ p ∈ mkN T, LamX.TabB base mg (He.cT K p).1 (He.cT K p).2) : @TabH (gloOf K T) T K mg base := by
  letI : Glo := gloOf K T
  intro f x e hm oc od fd os lk
  have hm' : f ∈ T.mks := by simpa using hm
  have ex : T.fns.getD f Str.empty = x := by rw [List.getD_eq_getElem?_getD, e]; rfl
  have mem : ((x, none) : He.Defn) ∈ mkN T := List.mem_map.mpr ⟨f, hm', by rw [ex]⟩
  have e2 := e
  rw [G.fns, List.getElem?_map] at e2
  cases he : es[f]? with
  | none => rw [he] at e2; cases e2
  | some en =>
    rw [he] at e2
    cases e2
    have hmem := List.mem_of_getElem? he
    obtain ⟨fd2, F⟩ := c.def_ f (d := en.d) (by rw [List.getElem?_map, he]; rfl)
    obtain ⟨p1, _⟩ := Bool.and_eq_true_iff.mp (List.all_eq_true.mp G.pl en hmem)
    have p1 := of_decide_eq_true p1
    have qn := of_decide_eq_true (List.all_eq_true.mp G.qn en hmem)
    have ea : He.fAd K en.d.at_ = Glo.fn f := by rw [p1]; exact (congrArg (He.ga K) ex).symm
    obtain ⟨oc2, od2, dV, kV, doc, pm, an, cdv, ct, osl, rfl, lk2, hcd, _, _⟩ := F.ex
    have lk3 := lk2
    rw [ea, lk] at lk2
    cases lk2
    obtain ⟨c0, ec⟩ := He.codeIn_ref hcd
    have eC : He.codeOf K (en.d.name, none) = c0 := He.codeOf_eq (by rw [← p1]; exact lk3) ec
    refine ⟨c0, (He.cT K (en.d.name, none)).2, ec, ?_, ?_, fun p hp z => ?_⟩
    · have t := tb _ mem
      rw [show (He.cT K (en.d.name, none)).1 = c0 from eC] at t
      exact t
    · refine List.mem_map.mpr ⟨_, mem, ?_⟩
      show ((He.cT K (en.d.name, none)).2, en.d.name ++ ".<locals>." ++ "<lambda>") = ((He.cT K (en.d.name, none)).2, en.d.qual ++ ".<locals>." ++ "<lambda>")
      rw [qn]
    · obtain ⟨q, hq, rfl⟩ := List.mem_map.mp hp
      unfold tabU at hu
      have k := List.all_eq_true.mp (List.all_eq_true.mp hu q hq) _ mem
      rw [Bool.or_eq_true, Bool.not_eq_true', decide_eq_false_iff_not, decide_eq_true_eq] at k
      have k : q.1 = en.d.name := k.elim (fun y => absurd z y) id
      show q.1 ++ ".<locals>." ++ "<lambda>" = en.d.qual ++ ".<locals>." ++ "<lambda>"
      rw [k, qn]
/-! ### the law's call -/
theorem law_g {P : Program} {w : World} {K : Frag} {mg mb : Str → Option Value} {n : Nat} {fa a : Addr} {sp : Sp} {s : Shared} {us : List Value} {ns : List Int} {tb : List (Addr × Addr)} (KX : K.In s.heap) (nol : ∀ b o, K.lookup b = some o → isLst o = false)
    (hm : s.heap.Ns mainGlobals mg) (hb : s.heap.Ns builtinsNs mb) (hbb : ∀ x : Str, x ≠ "__name__" → mb x = bootBuiltins x) (lim : s.heap.NoLimit) (hg : s.gens = #[]) (ha : s.heap.get? a = some { cls := .type "list", data := .seq us.toArray }) (hi : IntsAre us ns) (hl : ns.length ≤ sizeLine) (hr : Room n callerA)
    (tz : ∀ p ∈ tb, s.heap.get? p.2 = some { cls := .none, data := .fields #[] }) (ta : ∀ p ∈ tb, K.lookup p.2 = none) (tc : ∀ p ∈ tb, codeHdIn K p.1 p.2 = true)
    (bmain : ∃ (bm : Addr) (ob : Obj), mg "__builtins__" = some (.ref bm) ∧ bm ≠ builtinsNs ∧ s.heap.get? bm = some ob ∧ ob.cls = .type "module" ∧ ob.dict = some builtinsNs ∧ ob.data = .plain)
    (F : ∀ base : Heap, (∀ p ∈ tb, LamX.TabB base mg p.1 p.2) → ∃ fd ps, FnG P w K mg base n fa fd ps sp ∧ L2.Binds K fd ps []) (hsp : ∀ H o, H a = some (.frz o (.lst (ns.map V.int))) → (∀ p ∈ tb, H p.2 = some (.tbl #[])) → sp [.ref a] H (fun v _ => v = .bl true) fun _ _ _ => False) :
    codeAny (model P w) callerA (.call (.ref fa) ⟨[.ref a], []⟩) (fun r s' => r = .ok (.ret (.bool true)) ∧ OldK s.heap s'.heap ∧ s'.os = s.os ∧ AllBare s'.gens) s := by
  have aT : ∀ p ∈ tb, p.2 ≠ a := fun p hp z => by
    have e := tz p hp
    rw [z, ha] at e
    cases e
  obtain ⟨H, hH⟩ : ∃ H : Hp, H = fun b => if b = a then some (HO.frz { cls := .type "list", data := .seq us.toArray } (.lst (ns.map V.int))) else if b ∈ tb.map (·.2) then some (.tbl #[]) else none := ⟨_, rfl⟩
  have Ha : H a = some (.frz { cls := .type "list", data := .seq us.toArray } (.lst (ns.map V.int))) := by rw [hH]; exact if_pos rfl
  have Ht : ∀ p ∈ tb, H p.2 = some (.tbl #[]) := fun p hp => by
    rw [hH]
    exact (if_neg (aT p hp)).trans (if_pos (List.mem_map.mpr ⟨p, hp, rfl⟩))
  have Hc : ∀ b, H b = none ∨ b = a ∨ ∃ p ∈ tb, p.2 = b := fun b => by
    by_cases h1 : b = a
    · exact .inr (.inl h1)
    · by_cases h2 : b ∈ tb.map (·.2)
      · obtain ⟨p, hp, e⟩ := List.mem_map.mp h2
        exact .inr (.inr ⟨p, hp, e⟩)
      · refine .inl ?_
        rw [hH]
        exact (if_neg h1).trans (if_neg h2)
  have nH : ∀ {b : Addr} {o : Obj}, s.heap.get? b = some o → (∀ v m, o.data ≠ .seq v m) → o.data ≠ .fields #[] → H b = none := fun {b o} e h1 h2 => by
    rcases Hc b with z | z | ⟨p, hp, z⟩
    · exact z
    · rw [z, ha] at e
      cases e
      exact absurd rfl (h1 _ _)
    · have e2 := tz p hp
      rw [z, e] at e2
      cases e2
      exact absurd rfl h2
  have dic : ∀ {b : Addr} {o : Obj} {es : Array DictEntry} {ep : Nat}, s.heap.get? b = some o → o.data = .dict es ep → H b = none := fun e d => nH e (fun _ _ z => by rw [d] at z; cases z) fun z => by rw [d] at z; cases z
  have ns : ∀ {b : Addr} {m : Str → Option Value}, s.heap.Ns b m → (hidT s.heap H).Ns b m := fun ⟨o, es, ep, e, d, r⟩ => ⟨o, es, ep, hidT_get e (dic e d), d, r⟩
  have KB : K.In (hidT s.heap H) := fun b o e => hidT_get (KX b o e) (by
    rcases Hc b with z | z | ⟨p, hp, z⟩
    · exact z
    · have e1 := KX b o e
      rw [z, ha] at e1
      cases e1
      cases nol _ _ e
    · have e1 := ta p hp
      rw [z, e] at e1
      cases e1)
  have M : Mod K mg (hidT s.heap H) := ⟨KB, ns hm, ⟨mb, ns hb, hbb⟩, let ⟨mc, q1, q2⟩ := lim; ⟨mc, ns q1, q2⟩⟩
  have hok : HOk P w H s.heap := fun b u z => by
    rcases Hc b with y | y | ⟨p, hp, y⟩
    · rw [y] at z
      cases z
    · subst y
      rw [Ha] at z
      cases z
      exact ⟨ha, by rw [List.length_map]; exact hl, us, _, vals_ints hi, ha⟩
    · subst y
      rw [Ht p hp] at z
      cases z
      exact tz p hp
  have TB : ∀ p ∈ tb, LamX.TabB (hidT s.heap H) mg p.1 p.2 := fun p hp => by
    obtain ⟨bm, ob, b1, b2, b3, b4, b5, b6⟩ := bmain
    obtain ⟨og, eg, xg, g1, g2, _⟩ := hm
    refine ⟨codeHd_of_K KB (tc p hp), ⟨bm, ob, b1, b2, fun q => ?_, fun q => ?_, hidT_get b3 (nH b3 (fun _ _ z => by rw [b6] at z; cases z) fun z => by rw [b6] at z; cases z), b4, b5, b6⟩, fun q => ?_⟩
    · rw [q, g1] at b3
      cases b3
      rw [g2] at b6
      cases b6
    · rw [q, tz p hp] at b3
      cases b3
      cases b6
    · rw [q, tz p hp] at g1
      cases g1
      cases g2
  have e0 : Env0 P w K mg (hidT s.heap H) callerA [] s H := ⟨rfl, M, fun b o e => of_hidT e, Nat.le_of_eq (hidT_size _ _), trivial, fun b hb => absurd (show b ∈ ([] : List Addr) from hb) (by simp), hok, .of_eq hg⟩
  obtain ⟨fd, ps, Fg, hB⟩ := F (hidT s.heap H) TB
  have hw := Fg.wide _ _ _ _ (hsp H _ Ha Ht)
  have bd := hB s [.ref a] KX (by rw [List.append_nil]; exact hw)
  rw [List.append_nil] at bd
  refine codeAny_mono (Fg.goes callerA [] s H ⟨[.ref a], []⟩ [.ref a] [.ref a] _ _ rfl hr e0 bd (.cons rfl .nil) (hsp H _ Ha Ht)) fun r s' z => ?_
  cases r with
  | error e =>
    obtain ⟨_, _, _, _, _, _, _, _, _, _, _, _, z⟩ := z
    exact z.elim
  | ok fl =>
    cases fl with
    | ret u =>
      obtain ⟨v, H', os, bare, un, hok', rv, q⟩ := z
      have q : v = .bl true := q
      subst q
      have rv : u = Value.bool true := rv
      subst rv
      have keep : ∀ b o, H b = none ∨ b = a → s.heap.get? b = some o → s'.heap.get? b = some o := fun b o h e => by
        rcases h with z | z
        · exact un.keep b o e z (by intro z; exact absurd (show b ∈ ([] : List Addr) from z) (by simp)) (by simp)
        · subst z
          have e1 := (hok' b _ (un.frzs b _ _ Ha)).1
          rw [ha] at e
          cases e
          exact e1
      have more : ∀ p ∈ tb, ∃ m : Array Value, s'.heap.get? p.2 = some { cls := .none, data := .fields m } := fun p hp => by
        obtain ⟨m, z⟩ := un.tbls p.2 #[] (Ht p hp)
        exact ⟨_, hok' p.2 _ z⟩
      refine ⟨rfl, ⟨fun b o e => ?_, fun b o e => ?_⟩, os, bare⟩
      · rcases Hc b with z | z | ⟨p, hp, z⟩
        · exact .inl (keep b o (.inl z) e)
        · exact .inl (keep b o (.inr z) e)
        · subst z
          obtain ⟨m, hm2⟩ := more p hp
          rw [tz p hp] at e
          cases e
          exact .inr (.inl ⟨((codeHd_of_K KX (tc p hp)).tab (tz p hp)).isCodeTable, rfl, #[], m, rfl, by rw [Array.empty_append]; exact hm2⟩)
      · rcases Hc b with z | z | ⟨p, hp, z⟩
        · exact ⟨o, keep b o (.inl z) e⟩
        · exact ⟨o, keep b o (.inr z) e⟩
        · subst z
          obtain ⟨m, hm2⟩ := more p hp
          exact ⟨_, hm2⟩
    | next => exact z.elim
    | brk => exact z.elim
    | cont => exact z.elim
/-- a law, its defs by the table; f: the law's def -/
theorem walk_g {l : OpenLaw} {m n k wl : Nat} {q : Program} {loose : List Str} {XP : (Str → Option Value) → Heap → Prop} {dr : DefRec} {es : List Ent} {fl : List Fn} {T : Tab} {con : Nat → Option D} {fa : List He.Fa} {f : Nat} {el : Ent}
    (hm : l.most = some m) (hm2 : m ≤ sizeLine) (hdf : dr.params.defaults = []) (hr : Room n callerA) (G : Given es fl T con fa l.prog) (hf : es[f]? = some el) (hnm : dr.name = el.d.name)
    (law : ∀ ns : List Int, ns.length ≤ m → ∃ st, run (fun i => fl[i]?) con wl T.fns.length n f [.scr ns] [] = .ok (.bl true) st) :
    WalkO q loose XP (hookM k fa (es.map (·.d)) (mkN T) (exM l.prog.main.file T)).says l.row.toRowW dr [] (fun f vs => PySem.call f vs) := by
  refine Att.attach_call hm hdf fun w s₀ s mg mb ad o pm cd doc a us ns Gd Y ho hd hcd hmg hobj hints hlen hg => ?_
  obtain ⟨K, KX, c, hc, nol, y1, y2, y3⟩ := Y
  letI : Glo := gloOf K T
  obtain ⟨hc, hu⟩ := Bool.and_eq_true_iff.mp hc
  have M := md_of G KX Gd.T.g c hc
  have eT : T.fns[f]? = some el.d.name := by rw [G.fns, List.getElem?_map, hf]; rfl
  have efn : ad = Glo.fn f := by
    have e1 := (M.fns f _ eT).1
    rw [hnm, e1] at hmg
    cases hmg
    rfl
  subst efn
  have of_ : ∀ {p : Addr × Addr}, p ∈ (mkN T).map (He.cT K) → ∃ q ∈ mkN T, He.cT K q = p := fun hp => List.mem_map.mp hp
  refine law_g (sp := spF Glo.cl (cxt T (fun i => fl[i]?) con wl n) f) (tb := (mkN T).map (He.cT K)) KX nol Gd.T.g Gd.T.b Gd.T.builtins Gd.T.nolimit hg hobj hints (Nat.le_trans hlen hm2) hr (fun p hp => ?_) (fun p hp => ?_) (fun p hp => ?_) Gd.T.bmain (fun base tb => ?_) fun H o hH hT => ?_
  · obtain ⟨q, hq, rfl⟩ := of_ hp
    exact y3 q hq
  · obtain ⟨q, hq, rfl⟩ := of_ hp
    exact y2 q hq
  · obtain ⟨q, hq, rfl⟩ := of_ hp
    exact y1 q hq
  · obtain ⟨fd, ps, h1, h2, _⟩ := (dp_all (wl := wl) (w := w) (base := base) M (tabH_of G c hu fun p hp => tb _ (List.mem_map.mpr ⟨p, hp, rfl⟩)) n).1 f _ eT
    exact ⟨fd, ps, h1, h2⟩
  · obtain ⟨st, e⟩ := law ns hlen
    refine ⟨⟨fun _ => 0, fun _ => False, []⟩, [.scr ns], ⟨fun k o e => (by simp at e), fun j k ⟨o, e, _⟩ => (by simp at e), fun k ⟨o, e, _⟩ => (by simp at e), fun a h => h.elim, fun p hp => ?_, fun a h => h.elim⟩, ⟨_, [], rfl, ⟨a, o, rfl, fun z => ?_, hH⟩, rfl⟩, ?_⟩
    · obtain ⟨q, hq, rfl⟩ := List.mem_map.mp hp
      exact .nil (hT _ (List.mem_map.mpr ⟨q, hq, rfl⟩))
    · rcases z with z | ⟨k, ⟨o, e, _⟩, _⟩
      · exact z
      · simp at e
    · show Aft Rep Glo.cl _ _ H (run (fun i => fl[i]?) con wl T.fns.length n f [.scr ns] []) _
      rw [e]
      exact fun F' H' b _ _ _ z => z
end MP
end
section
/-! MPCon: the module's whole numbers. -/
namespace MP
open PySem
def conOf (nums : List (Str × Int)) : Nat → Option D := fun g => (nums[g]?).map fun q => .int q.2
end MP
end
section
set_option maxRecDepth 100000
set_option maxHeartbeats 4000000
/-! MPGiven: what a law's text gives. -/
namespace MP
open PySem PySem.W PySem.Calls PyProof.Rows L2
def faOf (es : List Ent) (exc : List Str) (nums : List (Str × Int)) : List He.Fa := (es.map fun e => .glo e.d.name) ++ ((exc.map .glo) ++ ((bnames.map .free) ++ ([.free "super"] ++ (nums.map fun q => .int q.1 q.2))))

theorem given_of {es : List Ent} {fl : List Fn} {T : Tab} {nums : List (Str × Int)} {prog : Program} (h1 : T.fns = es.map fun e => e.d.name) (h2 : es.all plainD = true) (h3 : ∀ e ∈ es, entB T e = true) (h4 : ∀ e ∈ es, BindE e)
    (h5 : ∀ (i : Nat) (e : Ent) (m : Nat) (ks : List Str) (ix : List Nat), es[i]? = some e → (i, m, ks, ix) ∈ T.kws → BindK e m ks ix) (h6 : T.con = nums.map (·.1)) (h7 : (prog.main.scope.names.lookup ("super" : Str)).isSome = false)
    (h8 : fl.take es.length = es.map (·.fn)) (h9 : ((List.range es.length).map fun i => T.mks.contains i) = es.map (·.ml)) (h10 : es.all (fun e => decide (e.d.qual = e.d.name)) = true) (h11 : ∀ j ps b sc, T.lk j ps b sc = true → lamB T (fun i => fl[i]?) j ps b sc = true) : Given es fl T (conOf nums) (faOf es T.exc nums) prog where
  fns := h1
  pl := h2
  ok := fun i e q => h3 e (List.mem_of_getElem? q)
  bind := fun i e q => h4 e (List.mem_of_getElem? q)
  kws := h5
  glo := fun e he => List.mem_append_left _ (List.mem_map.mpr ⟨e, he, rfl⟩)
  free := fun x hx => List.mem_append_right _ (List.mem_append_right _ (List.mem_append_left _ (List.mem_map.mpr ⟨x, hx, rfl⟩)))
  sup := List.mem_append_right _ (List.mem_append_right _ (List.mem_append_right _ (List.mem_append_left _ (List.mem_singleton.mpr rfl))))
  con := fun g x d e q => by
    rw [h6, List.getElem?_map] at e
    unfold conOf at q
    cases hq : nums[g]? with
    | none => rw [hq] at e; cases e
    | some p =>
      rw [hq] at e q
      cases e
      cases q
      exact ⟨p.2, rfl, List.mem_append_right _ (List.mem_append_right _ (List.mem_append_right _ (List.mem_append_right _ (List.mem_map.mpr ⟨p, List.mem_of_getElem? hq, rfl⟩))))⟩
  top := h7
  trees := fun i e q => by
    have hi : i < es.length := (List.getElem?_eq_some_iff.mp q).1
    have k : (fl.take es.length)[i]? = (es.map (·.fn))[i]? := by rw [h8]
    rw [List.getElem?_take_of_lt hi, List.getElem?_map, q] at k
    exact k
  ml := fun i e q => by
    have hi : i < es.length := (List.getElem?_eq_some_iff.mp q).1
    have k : ((List.range es.length).map fun i => T.mks.contains i)[i]? = (es.map (·.ml))[i]? := by rw [h9]
    rw [List.getElem?_map, List.getElem?_map, q, List.getElem?_range hi] at k
    exact Option.some.inj k
  qn := h10
  lam := h11
end MP
end
section
set_option maxRecDepth 100000
set_option maxHeartbeats 0
namespace MP
namespace L
open PySem
abbrev f_is_whole : Nat := 0
abbrev f_is_many : Nat := 1
abbrev f_is_lot_by : Nat := 2
abbrev f_lots_of : Nat := 3
abbrev f_is_within : Nat := 4
abbrev f_is_complex_by : Nat := 5
abbrev f_check_complex : Nat := 6
abbrev f_many_in : Nat := 7
abbrev f_tops_in : Nat := 8
abbrev f_has_face : Nat := 9
abbrev f_faces_by : Nat := 10
abbrev f_faces_at : Nat := 11
abbrev f_dimension_of : Nat := 12
abbrev f_is_face_by : Nat := 13
abbrev f_check_face : Nat := 14
abbrev f_check_even : Nat := 15
abbrev f_sides_by : Nat := 16
abbrev f_common : Nat := 17
abbrev f_goes_on : Nat := 18
abbrev f_is_order_of : Nat := 19
abbrev f_is_shell_by : Nat := 20
abbrev f_is_shell : Nat := 21
abbrev f_check_shelled : Nat := 22
abbrev f_check_few_tops : Nat := 23
abbrev f_shell_by : Nat := 24
abbrev f_shell_or_none : Nat := 25
abbrev f_is_shell_or_none : Nat := 26
abbrev f_new_by : Nat := 27
abbrev f_new_faces : Nat := 28
abbrev f_end_tops : Nat := 29
abbrev f_link_shell : Nat := 30
abbrev f_between : Nat := 31
abbrev f_is_parting_by : Nat := 32
abbrev f_is_parting : Nat := 33
abbrev f_parting_by : Nat := 34
abbrev f_find_parting : Nat := 35
abbrev f_parting_or_none : Nat := 36
abbrev f_is_parting_or_none : Nat := 37
abbrev f_choices : Nat := 38
abbrev f_is_odd : Nat := 39
abbrev f_h_by : Nat := 40
abbrev f_h_numbers : Nat := 41
abbrev f__law_hash : Nat := 42
abbrev f__law_random : Nat := 43
abbrev f__law_cell : Nat := 44
abbrev f__law_generator : Nat := 45
abbrev f__law_drawn_order : Nat := 46
abbrev f__law_lots : Nat := 47
abbrev f__law_in : Nat := 48
abbrev f__law_complex : Nat := 49
abbrev f__law_body : Nat := 50
abbrev f__law_odd_bodies : Nat := 51
abbrev f__law_caught : Nat := 52
abbrev f__law_asked : Nat := 53
abbrev f_law : Nat := 54
abbrev g_MOST_POINTS : Nat := 0
abbrev g_MOST_TOPS : Nat := 1
abbrev g_MOST_SHELLED : Nat := 2
abbrev x_HoleError : Nat := 0
abbrev x_InvalidComplex : Nat := 1
abbrev x_InvalidFace : Nat := 2
abbrev x_InvalidList : Nat := 3
abbrev x_Unlike : Nat := 4
abbrev x_TooMany : Nat := 5
def nums : List (Str × Int) := [("MOST_POINTS", 7), ("MOST_TOPS", 20), ("MOST_SHELLED", 8)]
def b_is_whole : Sms := (.cons (.ret (.and (.blt (.isi .int) (.cons (.nm 0) .nil)) (.not (.blt (.isi .bool) (.cons (.nm 0) .nil))))) .nil)
def b_is_many : Sms := (.cons (.ret (.and (.pur f_is_whole (.cons (.nm 0) .nil)) (.chn .le .le (.kn (.int 1)) (.nm 0) (.con g_MOST_POINTS)))) .nil)
def b_is_lot_by : Sms := (.cons (.ife (.or (.not (.blt (.isi .list) (.cons (.nm 1) .nil))) (.not (.blt .all (.cons (.lc (.and (.pur f_is_whole (.cons (.nm 2) .nil)) (.chn .le .lt (.kn (.int 0)) (.nm 2) (.nm 0))) [2] false (.lis (.nm 1)) .non [2]) .nil)))) (.cons (.ret (.kn (.bl false))) .nil) .nil) (.cons (.ret (.blt .all (.cons (.lc (.cmp .lt (.sub (.nm 1) (.bin .sub (.nm 3) (.kn (.int 1)))) (.sub (.nm 1) (.nm 3))) [3] false (.rg2 (.kn (.int 1)) (.blt .len (.cons (.nm 1) .nil))) .non [3]) .nil))) .nil))
def l_lots_of_0 : Sms := (.cons (.set 1 (.bin .add (.nm 1) (.lc (.bin .add (.nm 3) (.lst (.cons (.nm 2) .nil))) [3] false (.lis (.nm 1)) .non [3]))) .nil)
def b_lots_of : Sms := (.cons (.set 1 (.lst (.cons (.lst .nil) .nil))) (.cons (.for_ [2] false (.rg1 (.nm 0)) l_lots_of_0) (.cons (.ret (.lc (.nm 3) [4, 3] true (.lis (.blt .sorted (.cons (.lc (.tup (.cons (.blt .len (.cons (.nm 3) .nil)) (.cons (.nm 3) .nil))) [3] false (.lis (.nm 1)) .non [3]) .nil))) .non [4, 3])) .nil)))
def b_is_within : Sms := (.cons (.ret (.blt .all (.cons (.lc (.cmp .isin (.nm 2) (.nm 1)) [2] false (.lis (.nm 0)) .non [2]) .nil))) .nil)
def l_is_complex_by_0 : Sms := (.cons (.ife (.blt .any (.cons (.lc (.pur f_is_within (.cons (.nm 2) (.cons (.nm 4) .nil))) [4] false (.lis (.bin .add (.slc (.nm 1) .non (.som (.nm 3))) (.slc (.nm 1) (.som (.bin .add (.nm 3) (.kn (.int 1)))) .non))) .non [4]) .nil)) (.cons (.ret (.kn (.bl false))) .nil) .nil) .nil)
def b_is_complex_by : Sms := (.cons (.ife (.or (.not (.blt (.isi .tuple) (.cons (.nm 0) .nil))) (.or (.cmp .ne (.blt .len (.cons (.nm 0) .nil)) (.kn (.int 3))) (.or (.not (.blt (.isi .str) (.cons (.sub (.nm 0) (.kn (.int 0))) .nil))) (.cmp .ne (.sub (.nm 0) (.kn (.int 0))) (.kn (.str "complex")))))) (.cons (.ret (.kn (.bl false))) .nil) .nil) (.cons (.ife (.or (.not (.pur f_is_many (.cons (.sub (.nm 0) (.kn (.int 1))) .nil))) (.or (.not (.blt (.isi .list) (.cons (.sub (.nm 0) (.kn (.int 2))) .nil))) (.cmp .gt (.blt .len (.cons (.sub (.nm 0) (.kn (.int 2))) .nil)) (.con g_MOST_TOPS)))) (.cons (.ret (.kn (.bl false))) .nil) .nil) (.cons (.set 1 (.sub (.nm 0) (.kn (.int 2)))) (.cons (.ife (.not (.blt .all (.cons (.lc (.and (.pur f_is_lot_by (.cons (.sub (.nm 0) (.kn (.int 1))) (.cons (.nm 2) .nil))) (.cmp .ne (.nm 2) (.lst .nil))) [2] false (.lis (.nm 1)) .non [2]) .nil))) (.cons (.ret (.kn (.bl false))) .nil) .nil) (.cons (.ife (.not (.blt .all (.cons (.lc (.cmp .lt (.sub (.nm 1) (.bin .sub (.nm 3) (.kn (.int 1)))) (.sub (.nm 1) (.nm 3))) [3] false (.rg2 (.kn (.int 1)) (.blt .len (.cons (.nm 1) .nil))) .non [3]) .nil))) (.cons (.ret (.kn (.bl false))) .nil) .nil) (.cons (.for_ [3, 2] true (.enu (.nm 1)) l_is_complex_by_0) (.cons (.ret (.kn (.bl true))) .nil)))))))
def b_check_complex : Sms := (.cons (.ife (.not (.pur f_is_complex_by (.cons (.nm 0) .nil))) (.cons (.rai x_InvalidComplex (.nm 0)) .nil) .nil) .nil)
def b_many_in : Sms := (.cons (.ret (.sub (.nm 0) (.kn (.int 1)))) .nil)
def b_tops_in : Sms := (.cons (.ret (.lc (.blt .list (.cons (.nm 1) .nil)) [1] false (.lis (.sub (.nm 0) (.kn (.int 2)))) .non [1])) .nil)
def b_has_face : Sms := (.cons (.ret (.and (.cmp .ne (.nm 1) (.lst .nil)) (.blt .any (.cons (.lc (.pur f_is_within (.cons (.nm 1) (.cons (.nm 2) .nil))) [2] false (.lis (.sub (.nm 0) (.kn (.int 2)))) .non [2]) .nil)))) .nil)
def b_faces_by : Sms := (.cons (.ret (.lc (.nm 1) [1] false (.lis (.pur f_lots_of (.cons (.sub (.nm 0) (.kn (.int 1))) .nil))) (.som (.pur f_has_face (.cons (.nm 0) (.cons (.nm 1) .nil)))) [1])) .nil)
def b_faces_at : Sms := (.cons (.ret (.lc (.nm 2) [2] false (.lis (.pur f_faces_by (.cons (.nm 0) .nil))) (.som (.cmp .eq (.blt .len (.cons (.nm 2) .nil)) (.bin .add (.nm 1) (.kn (.int 1))))) [2])) .nil)
def b_dimension_of : Sms := (.cons (.ret (.bin .sub (.blt .max (.cons (.bin .add (.lc (.blt .len (.cons (.nm 1) .nil)) [1] false (.lis (.sub (.nm 0) (.kn (.int 2)))) .non [1]) (.lst (.cons (.kn (.int 0)) .nil))) .nil)) (.kn (.int 1)))) .nil)
def b_is_face_by : Sms := (.cons (.ret (.and (.pur f_is_lot_by (.cons (.sub (.nm 0) (.kn (.int 1))) (.cons (.nm 1) .nil))) (.pur f_has_face (.cons (.nm 0) (.cons (.nm 1) .nil))))) .nil)
def b_check_face : Sms := (.cons (.ife (.not (.pur f_is_face_by (.cons (.nm 0) (.cons (.nm 1) .nil)))) (.cons (.rai x_InvalidFace (.nm 1)) .nil) .nil) .nil)
def b_check_even : Sms := (.cons (.exp (.pur f_check_complex (.cons (.nm 0) .nil))) (.cons (.ife (.blt .any (.cons (.lc (.cmp .ne (.blt .len (.cons (.nm 1) .nil)) (.blt .len (.cons (.sub (.sub (.nm 0) (.kn (.int 2))) (.kn (.int 0))) .nil))) [1] false (.lis (.sub (.nm 0) (.kn (.int 2)))) .non [1]) .nil)) (.cons (.rai x_Unlike (.nm 0)) .nil) .nil) .nil))
def b_sides_by : Sms := (.cons (.ret (.lc (.bin .add (.slc (.nm 0) .non (.som (.nm 1))) (.slc (.nm 0) (.som (.bin .add (.nm 1) (.kn (.int 1)))) .non)) [1] false (.rg1 (.blt .len (.cons (.nm 0) .nil))) .non [1])) .nil)
def b_common : Sms := (.cons (.ret (.lc (.nm 2) [2] false (.lis (.nm 0)) (.som (.cmp .isin (.nm 2) (.nm 1))) [2])) .nil)
def b_goes_on : Sms := (.cons (.ife (.cmp .eq (.nm 1) (.lst .nil)) (.cons (.ret (.kn (.bl true))) .nil) .nil) (.cons (.set 4 (.lc (.pur f_common (.cons (.sub (.nm 0) (.nm 2)) (.cons (.sub (.nm 0) (.nm 3)) .nil))) [3] false (.lis (.nm 1)) .non [3])) (.cons (.set 7 (.lc (.nm 5) [5] false (.lis (.pur f_sides_by (.cons (.sub (.nm 0) (.nm 2)) .nil))) (.som (.blt .any (.cons (.lc (.pur f_is_within (.cons (.nm 5) (.cons (.nm 6) .nil))) [6] false (.lis (.nm 4)) .non [6]) .nil))) [5])) (.cons (.ret (.blt .all (.cons (.lc (.blt .any (.cons (.lc (.pur f_is_within (.cons (.nm 6) (.cons (.nm 5) .nil))) [5] false (.lis (.nm 7)) .non [5]) .nil)) [6] false (.lis (.nm 4)) .non [6]) .nil))) .nil))))
def b_is_order_of : Sms := (.cons (.ife (.or (.not (.blt (.isi .list) (.cons (.nm 1) .nil))) (.not (.blt .all (.cons (.lc (.pur f_is_whole (.cons (.nm 2) .nil)) [2] false (.lis (.nm 1)) .non [2]) .nil)))) (.cons (.ret (.kn (.bl false))) .nil) .nil) (.cons (.ret (.cmp .eq (.blt .sorted (.cons (.nm 1) .nil)) (.blt .lrng (.cons (.nm 0) .nil)))) .nil))
def b_is_shell_by : Sms := (.cons (.ife (.not (.pur f_is_order_of (.cons (.blt .len (.cons (.nm 0) .nil)) (.cons (.nm 1) .nil)))) (.cons (.ret (.kn (.bl false))) .nil) .nil) (.cons (.ret (.blt .all (.cons (.lc (.pur f_goes_on (.cons (.nm 0) (.cons (.slc (.nm 1) .non (.som (.nm 2))) (.cons (.nm 3) .nil)))) [2, 3] true (.enu (.nm 1)) .non [2, 3]) .nil))) .nil))
def b_is_shell : Sms := (.cons (.exp (.pur f_check_even (.cons (.nm 0) .nil))) (.cons (.ret (.pur f_is_shell_by (.cons (.pur f_tops_in (.cons (.nm 0) .nil)) (.cons (.nm 1) .nil)))) .nil))
def b_check_shelled : Sms := (.cons (.exp (.pur f_check_even (.cons (.nm 0) .nil))) (.cons (.ife (.not (.pur f_is_shell_by (.cons (.pur f_tops_in (.cons (.nm 0) .nil)) (.cons (.nm 1) .nil)))) (.cons (.rai x_InvalidList (.nm 1)) .nil) .nil) .nil))
def b_check_few_tops : Sms := (.cons (.exp (.pur f_check_even (.cons (.nm 0) .nil))) (.cons (.ife (.cmp .gt (.blt .len (.cons (.sub (.nm 0) (.kn (.int 2))) .nil)) (.con g_MOST_SHELLED)) (.cons (.rai x_TooMany (.blt .len (.cons (.sub (.nm 0) (.kn (.int 2))) .nil))) .nil) .nil) .nil))
def l_shell_by_0 : Sms := (.cons (.set 5 (.bin .add (.nm 3) (.lst (.cons (.nm 4) .nil)))) (.cons (.ife (.and (.cmp .nin (.nm 4) (.nm 3)) (.and (.cmp .nin (.blt .str (.cons (.blt .sorted (.cons (.nm 5) .nil)) .nil)) (.nm 1)) (.pur f_goes_on (.cons (.nm 0) (.cons (.nm 3) (.cons (.nm 4) .nil)))))) (.cons (.sti (.nm 1) (.blt .str (.cons (.blt .sorted (.cons (.nm 5) .nil)) .nil)) (.kn (.bl true))) (.cons (.exp (.met .append (.nm 2) (.cons (.nm 5) .nil))) .nil)) .nil) .nil))
def l_shell_by_1 : Sms := (.cons (.set 3 (.met .pop (.nm 2) .nil)) (.cons (.ife (.cmp .eq (.blt .len (.cons (.nm 3) .nil)) (.blt .len (.cons (.nm 0) .nil))) (.cons (.ret (.nm 3)) .nil) .nil) (.cons (.for_ [4] false (.rg1 (.blt .len (.cons (.nm 0) .nil))) l_shell_by_0) .nil)))
def b_shell_by : Sms := (.cons (.par [1, 2] (.cons (.mk .dic0) (.cons (.mk (.lst (.cons (.lst .nil) .nil))) .nil))) (.cons (.whl (.cmp .ne (.nm 2) (.lst .nil)) l_shell_by_1) (.cons (.ret (.kn .non)) .nil)))
def b_shell_or_none : Sms := (.cons (.exp (.pur f_check_few_tops (.cons (.nm 0) .nil))) (.cons (.set 1 (.pur f_shell_by (.cons (.pur f_tops_in (.cons (.nm 0) .nil)) .nil))) (.cons (.ret (.ife (.cmp .is_ (.nm 1) (.kn .non)) (.tup (.cons (.kn (.str "none")) .nil)) (.tup (.cons (.kn (.str "shell")) (.cons (.nm 1) .nil))))) .nil)))
def b_is_shell_or_none : Sms := (.cons (.exp (.pur f_check_few_tops (.cons (.nm 0) .nil))) (.cons (.ife (.or (.not (.blt (.isi .tuple) (.cons (.nm 1) .nil))) (.or (.cmp .nin (.blt .len (.cons (.nm 1) .nil)) (.tup (.cons (.kn (.int 1)) (.cons (.kn (.int 2)) .nil)))) (.not (.blt (.isi .str) (.cons (.sub (.nm 1) (.kn (.int 0))) .nil))))) (.cons (.ret (.kn (.bl false))) .nil) .nil) (.cons (.ife (.cmp .eq (.blt .len (.cons (.nm 1) .nil)) (.kn (.int 1))) (.cons (.ret (.and (.cmp .eq (.sub (.nm 1) (.kn (.int 0))) (.kn (.str "none"))) (.cmp .is_ (.pur f_shell_by (.cons (.pur f_tops_in (.cons (.nm 0) .nil)) .nil)) (.kn .non)))) .nil) .nil) (.cons (.ret (.and (.cmp .eq (.sub (.nm 1) (.kn (.int 0))) (.kn (.str "shell"))) (.pur f_is_shell_by (.cons (.pur f_tops_in (.cons (.nm 0) .nil)) (.cons (.sub (.nm 1) (.kn (.int 1))) .nil))))) .nil))))
def l_new_by_0 : Sms := (.cons (.unp [6, 7] (.tup (.cons (.sub (.nm 0) (.nm 4)) (.cons (.lc (.sub (.nm 0) (.nm 5)) [5] false (.lis (.slc (.nm 1) .non (.som (.nm 3)))) .non [5]) .nil)))) (.cons (.set 9 (.lc (.nm 8) [8] false (.lis (.pur f_sides_by (.cons (.nm 6) .nil))) (.som (.blt .any (.cons (.lc (.pur f_is_within (.cons (.nm 8) (.cons (.nm 5) .nil))) [5] false (.lis (.nm 7)) .non [5]) .nil))) [8])) (.cons (.exp (.met .append (.nm 2) (.cons (.lc (.nm 10) [10] false (.lis (.nm 6)) (.som (.blt .any (.cons (.lc (.cmp .nin (.nm 10) (.nm 8)) [8] false (.lis (.nm 9)) .non [8]) .nil))) [10]) .nil))) .nil)))
def b_new_by : Sms := (.cons (.set 2 (.mk (.lst .nil))) (.cons (.for_ [3, 4] true (.enu (.nm 1)) l_new_by_0) (.cons (.ret (.frz (.nm 2))) .nil)))
def b_new_faces : Sms := (.cons (.exp (.pur f_check_shelled (.cons (.nm 0) (.cons (.nm 1) .nil)))) (.cons (.ret (.pur f_new_by (.cons (.pur f_tops_in (.cons (.nm 0) .nil)) (.cons (.nm 1) .nil)))) .nil))
def b_end_tops : Sms := (.cons (.exp (.pur f_check_shelled (.cons (.nm 0) (.cons (.nm 1) .nil)))) (.cons (.set 2 (.pur f_tops_in (.cons (.nm 0) .nil))) (.cons (.ret (.lc (.nm 3) [3, 4] true (.zip true (.nm 1) (.pur f_new_by (.cons (.nm 2) (.cons (.nm 1) .nil)))) (.som (.cmp .eq (.nm 4) (.sub (.nm 2) (.nm 3)))) [3, 4])) .nil)))
def b_link_shell : Sms := (.cons (.exp (.pur f_check_shelled (.cons (.nm 0) (.cons (.nm 1) .nil)))) (.cons (.exp (.pur f_check_face (.cons (.nm 0) (.cons (.nm 2) .nil)))) (.cons (.set 3 (.pur f_tops_in (.cons (.nm 0) .nil))) (.cons (.set 6 (.lc (.lc (.nm 5) [5] false (.lis (.sub (.nm 3) (.nm 4))) (.som (.cmp .nin (.nm 5) (.nm 2))) [5]) [4] false (.lis (.nm 1)) (.som (.pur f_is_within (.cons (.nm 2) (.cons (.sub (.nm 3) (.nm 4)) .nil)))) [4])) (.cons (.ret (.lc (.met .index (.blt .sorted (.cons (.nm 6) .nil)) (.cons (.nm 7) .nil)) [7] false (.lis (.nm 6)) .non [7])) .nil)))))
def b_between : Sms := (.cons (.set 3 (.lc (.nm 2) [2] false (.lis (.nm 1)) (.som (.cmp .nin (.nm 2) (.nm 0))) [2])) (.cons (.ret (.lc (.blt .sorted (.cons (.bin .add (.nm 0) (.lc (.sub (.nm 3) (.nm 5)) [5] false (.lis (.nm 4)) .non [5])) .nil)) [4] false (.lis (.pur f_lots_of (.cons (.blt .len (.cons (.nm 3) .nil)) .nil))) .non [4])) .nil))
def l_is_parting_by_0 : Sms := (.cons (.ife (.or (.not (.pur f_is_lot_by (.cons (.pur f_many_in (.cons (.nm 0) .nil)) (.cons (.nm 4) .nil)))) (.not (.pur f_is_within (.cons (.nm 4) (.cons (.nm 5) .nil))))) (.cons (.ret (.kn (.bl false))) .nil) .nil) (.cons (.set 3 (.bin .add (.nm 3) (.pur f_between (.cons (.nm 4) (.cons (.nm 5) .nil))))) .nil))
def b_is_parting_by : Sms := (.cons (.set 2 (.pur f_tops_in (.cons (.nm 0) .nil))) (.cons (.ife (.or (.not (.blt (.isi .list) (.cons (.nm 1) .nil))) (.cmp .ne (.blt .len (.cons (.nm 1) .nil)) (.blt .len (.cons (.nm 2) .nil)))) (.cons (.ret (.kn (.bl false))) .nil) .nil) (.cons (.set 3 (.lst .nil)) (.cons (.for_ [4, 5] true (.zip true (.nm 1) (.nm 2)) l_is_parting_by_0) (.cons (.ret (.cmp .eq (.blt .sorted (.cons (.nm 3) .nil)) (.blt .sorted (.cons (.bin .add (.bin .mul (.lst (.cons (.lst .nil) .nil)) (.blt .int (.cons (.cmp .ne (.nm 2) (.lst .nil)) .nil))) (.pur f_faces_by (.cons (.nm 0) .nil))) .nil)))) .nil)))))
def b_is_parting : Sms := (.cons (.exp (.pur f_check_even (.cons (.nm 0) .nil))) (.cons (.ret (.pur f_is_parting_by (.cons (.nm 0) (.cons (.nm 1) .nil)))) .nil))
def l_parting_by_0 : Sms := (.cons (.set 8 (.lc (.sub (.nm 5) (.nm 7)) [7] false (.lis (.nm 6)) .non [7])) (.cons (.set 9 (.pur f_between (.cons (.nm 8) (.cons (.nm 5) .nil)))) (.cons (.ife (.not (.blt .any (.cons (.lc (.cmp .isin (.nm 10) (.nm 4)) [10] false (.lis (.nm 9)) .non [10]) .nil))) (.cons (.exp (.met .append (.nm 2) (.cons (.tup (.cons (.bin .add (.nm 3) (.lst (.cons (.nm 8) .nil))) (.cons (.bin .add (.nm 4) (.nm 9)) .nil))) .nil))) .nil) .nil) .nil)))
def l_parting_by_1 : Sms := (.cons (.unp [3, 4] (.met .pop (.nm 2) .nil)) (.cons (.ife (.cmp .eq (.blt .len (.cons (.nm 3) .nil)) (.blt .len (.cons (.nm 0) .nil))) (.cons (.ife (.cmp .eq (.blt .len (.cons (.nm 4) .nil)) (.nm 1)) (.cons (.ret (.nm 3)) .nil) .nil) .nil) (.cons (.set 5 (.sub (.nm 0) (.blt .len (.cons (.nm 3) .nil)))) (.cons (.for_ [6] false (.lis (.pur f_lots_of (.cons (.blt .len (.cons (.nm 5) .nil)) .nil))) l_parting_by_0) .nil))) .nil))
def b_parting_by : Sms := (.cons (.set 2 (.mk (.lst (.cons (.tup (.cons (.lst .nil) (.cons (.lst .nil) .nil))) .nil)))) (.cons (.whl (.cmp .ne (.nm 2) (.lst .nil)) l_parting_by_1) (.cons (.ret (.kn .non)) .nil)))
def b_find_parting : Sms := (.cons (.set 1 (.pur f_tops_in (.cons (.nm 0) .nil))) (.cons (.ret (.pur f_parting_by (.cons (.nm 1) (.cons (.bin .add (.blt .len (.cons (.pur f_faces_by (.cons (.nm 0) .nil)) .nil)) (.blt .int (.cons (.cmp .ne (.nm 1) (.lst .nil)) .nil))) .nil)))) .nil))
def b_parting_or_none : Sms := (.cons (.exp (.pur f_check_few_tops (.cons (.nm 0) .nil))) (.cons (.set 1 (.pur f_find_parting (.cons (.nm 0) .nil))) (.cons (.ret (.ife (.cmp .is_ (.nm 1) (.kn .non)) (.tup (.cons (.kn (.str "none")) .nil)) (.tup (.cons (.kn (.str "parting")) (.cons (.nm 1) .nil))))) .nil)))
def b_is_parting_or_none : Sms := (.cons (.exp (.pur f_check_few_tops (.cons (.nm 0) .nil))) (.cons (.ife (.or (.not (.blt (.isi .tuple) (.cons (.nm 1) .nil))) (.or (.cmp .nin (.blt .len (.cons (.nm 1) .nil)) (.tup (.cons (.kn (.int 1)) (.cons (.kn (.int 2)) .nil)))) (.not (.blt (.isi .str) (.cons (.sub (.nm 1) (.kn (.int 0))) .nil))))) (.cons (.ret (.kn (.bl false))) .nil) .nil) (.cons (.ife (.cmp .eq (.blt .len (.cons (.nm 1) .nil)) (.kn (.int 1))) (.cons (.ret (.and (.cmp .eq (.sub (.nm 1) (.kn (.int 0))) (.kn (.str "none"))) (.cmp .is_ (.pur f_find_parting (.cons (.nm 0) .nil)) (.kn .non)))) .nil) .nil) (.cons (.ret (.and (.cmp .eq (.sub (.nm 1) (.kn (.int 0))) (.kn (.str "parting"))) (.pur f_is_parting_by (.cons (.nm 0) (.cons (.sub (.nm 1) (.kn (.int 1))) .nil))))) .nil))))
def l_choices_0 : Sms := (.cons (.set 2 (.bin .fdv (.bin .mul (.nm 2) (.bin .sub (.nm 0) (.nm 3))) (.bin .add (.nm 3) (.kn (.int 1))))) .nil)
def b_choices : Sms := (.cons (.set 2 (.kn (.int 1))) (.cons (.for_ [3] false (.rg1 (.nm 1)) l_choices_0) (.cons (.ret (.ife (.chn .le .le (.kn (.int 0)) (.nm 1) (.nm 0)) (.nm 2) (.kn (.int 0)))) .nil)))
def b_is_odd : Sms := (.cons (.ret (.cmp .eq (.bin .mod (.nm 0) (.kn (.int 2))) (.kn (.int 1)))) .nil)
def l_h_by_0 : Sms := (.cons (.set 6 (.bin .mul (.pur f_choices (.cons (.bin .sub (.nm 1) (.nm 5)) (.cons (.bin .sub (.nm 3) (.nm 5)) .nil))) (.sub (.nm 0) (.nm 5)))) (.cons (.set 4 (.ife (.pur f_is_odd (.cons (.bin .sub (.nm 3) (.nm 5)) .nil)) (.bin .sub (.nm 4) (.nm 6)) (.bin .add (.nm 4) (.nm 6)))) .nil))
def l_h_by_1 : Sms := (.cons (.set 4 (.kn (.int 0))) (.cons (.for_ [5] false (.rg1 (.bin .add (.nm 3) (.kn (.int 1)))) l_h_by_0) (.cons (.exp (.met .append (.nm 2) (.cons (.nm 4) .nil))) .nil)))
def b_h_by : Sms := (.cons (.set 2 (.mk (.lst .nil))) (.cons (.for_ [3] false (.rg1 (.bin .add (.nm 1) (.kn (.int 1)))) l_h_by_1) (.cons (.ret (.frz (.nm 2))) .nil)))
def b_h_numbers : Sms := (.cons (.exp (.pur f_check_even (.cons (.nm 0) .nil))) (.cons (.set 1 (.bin .add (.pur f_dimension_of (.cons (.nm 0) .nil)) (.kn (.int 1)))) (.cons (.ret (.pur f_h_by (.cons (.bin .add (.lst (.cons (.kn (.int 1)) .nil)) (.lc (.blt .len (.cons (.pur f_faces_at (.cons (.nm 0) (.cons (.nm 2) .nil))) .nil)) [2] false (.rg1 (.nm 1)) .non [2])) (.cons (.nm 1) .nil)))) .nil)))
def b__law_hash : Sms := (.cons (.set 2 (.bin .mod (.blt .int (.cons (.bin .add (.bin .add (.bin .add (.bin .mul (.nm 0) (.kn (.int 1140671))) (.bin .mul (.bin .mul (.kn (.int 27644437)) (.nm 1)) (.nm 1))) (.bin .mul (.kn (.int 131)) (.nm 1))) (.kn (.int 19))) .nil)) (.kn (.int 2147483629)))) (.cons (.set 2 (.bin .mod (.blt .int (.cons (.bin .add (.bin .add (.bin .mul (.nm 2) (.nm 2)) (.bin .mul (.kn (.int 62089)) (.nm 1))) (.kn (.int 32416187))) .nil)) (.kn (.int 2147483587)))) (.cons (.ret (.bin .mod (.blt .int (.cons (.bin .mul (.nm 2) (.kn (.int 48271))) .nil)) (.kn (.int 2147483647)))) .nil)))
def l__law_random_0 : Sms := (.cons (.sti (.nm 0) (.kn (.int 2)) (.bin .add (.sub (.nm 0) (.kn (.int 2))) (.kn (.int 1)))) (.cons (.set 2 (.bin .add (.bin .mul (.nm 2) (.kn (.int 2147483587))) (.pur f__law_hash (.cons (.sub (.nm 0) (.kn (.int 1))) (.cons (.sub (.nm 0) (.kn (.int 2))) .nil))))) .nil))
def b__law_random : Sms := (.cons (.ife (.cmp .gt (.sub (.nm 0) (.kn (.int 0))) (.kn (.int 0))) (.cons (.set 2 (.bin .mod (.blt .int (.cons (.sub (.nm 0) (.kn (.int 0))) .nil)) (.nm 1))) (.cons (.sti (.nm 0) (.kn (.int 0)) (.bin .fdv (.sub (.nm 0) (.kn (.int 0))) (.nm 1))) (.cons (.ret (.nm 2)) .nil))) .nil) (.cons (.set 2 (.kn (.int 0))) (.cons (.for_ [3] false (.rg1 (.bin .add (.kn (.int 1)) (.bin .fdv (.met .bits (.nm 1) .nil) (.kn (.int 30))))) l__law_random_0) (.cons (.ret (.bin .mod (.blt .int (.cons (.nm 2) .nil)) (.nm 1))) .nil))))
def b__law_cell : Sms := (.cons (.ife (.cmp .lt (.nm 1) (.blt .len (.cons (.nm 0) .nil))) (.cons (.ret (.sub (.nm 0) (.nm 1))) .nil) .nil) (.cons (.ret (.bin .mod (.blt .sum (.cons (.slc (.nm 0) .non (.som (.kn (.int 1)))) .nil)) (.kn (.int 1000003)))) .nil))
def b__law_generator : Sms := (.cons (.set 2 (.pur f__law_cell (.cons (.nm 0) (.cons (.nm 1) .nil)))) (.cons (.ret (.mk (.lst (.cons (.bin .mod (.blt .int (.cons (.blt .max2 (.cons (.bin .sub (.nm 2) (.bin .pow (.kn (.int 10)) (.kn (.int 18)))) (.cons (.kn (.int 0)) .nil))) .nil)) (.bin .pow (.bin .pow (.kn (.int 10)) (.kn (.int 60))) (.kn (.int 10)))) (.cons (.bin .mod (.blt .int (.cons (.nm 2) .nil)) (.kn (.int 2147483647))) (.cons (.bin .mul (.kn (.int 1000)) (.nm 1)) .nil)))))) .nil))
def l__law_drawn_order_0 : Sms := (.cons (.exp (.met .append (.nm 3) (.cons (.met .popAt (.nm 2) (.cons (.cal f__law_random (.cons (.nm 0) (.cons (.blt .len (.cons (.nm 2) .nil)) .nil))) .nil)) .nil))) .nil)
def b__law_drawn_order : Sms := (.cons (.par [2, 3] (.cons (.mk (.blt .list (.cons (.nm 1) .nil))) (.cons (.mk (.lst .nil)) .nil))) (.cons (.whl (.cmp .ne (.nm 2) (.lst .nil)) l__law_drawn_order_0) (.cons (.ret (.frz (.nm 3))) .nil)))
def l__law_lots_0 : Sms := (.cons (.set 1 (.bin .add (.nm 1) (.lc (.bin .add (.nm 3) (.lst (.cons (.nm 2) .nil))) [3] false (.lis (.nm 1)) .non [3]))) .nil)
def b__law_lots : Sms := (.cons (.set 1 (.lst (.cons (.lst .nil) .nil))) (.cons (.for_ [2] false (.rg1 (.nm 0)) l__law_lots_0) (.cons (.ret (.nm 1)) .nil)))
def b__law_in : Sms := (.cons (.ret (.cmp .eq (.lc (.nm 2) [2] false (.lis (.nm 0)) (.som (.cmp .nin (.nm 2) (.nm 1))) [2]) (.lst .nil))) .nil)
def l__law_complex_0 : Sms := (.cons (.ife (.and (.cmp .ne (.nm 3) (.lst .nil)) (.and (.cmp .nin (.nm 3) (.nm 2)) (.cmp .eq (.lc (.nm 4) [4] false (.lis (.nm 1)) (.som (.and (.cmp .ne (.nm 3) (.nm 4)) (.pur f__law_in (.cons (.nm 3) (.cons (.nm 4) .nil))))) [4]) (.lst .nil)))) (.cons (.exp (.met .append (.nm 2) (.cons (.nm 3) .nil))) .nil) .nil) .nil)
def b__law_complex : Sms := (.cons (.set 2 (.mk (.lst .nil))) (.cons (.for_ [3] false (.lis (.nm 1)) l__law_complex_0) (.cons (.ret (.tup (.cons (.kn (.str "complex")) (.cons (.nm 0) (.cons (.blt .sorted (.cons (.nm 2) .nil)) .nil))))) .nil)))
def b__law_body : Sms := (.cons (.set 3 (.bin .add (.kn (.int 1)) (.cal f__law_random (.cons (.nm 0) (.cons (.nm 1) .nil))))) (.cons (.set 5 (.lc (.nm 4) [4] false (.lis (.pur f__law_lots (.cons (.nm 3) .nil))) (.som (.chn .lt .le (.kn (.int 0)) (.blt .len (.cons (.nm 4) .nil)) (.nm 2))) [4])) (.cons (.ret (.pur f__law_complex (.cons (.nm 3) (.cons (.slc (.cal f__law_drawn_order (.cons (.nm 0) (.cons (.nm 5) .nil))) .non (.som (.cal f__law_random (.cons (.nm 0) (.cons (.kn (.int 5)) .nil))))) .nil)))) .nil)))
def b__law_odd_bodies : Sms := (.cons (.unp [1, 2, 3] (.nm 0)) (.cons (.set 4 (.lst (.cons (.kn .non) (.cons (.tup .nil) (.cons (.blt .list (.cons (.nm 0) .nil)) (.cons (.slc (.nm 0) .non (.som (.kn (.int 2)))) (.cons (.bin .add (.nm 0) (.tup (.cons (.kn (.int 0)) .nil))) (.cons (.tup (.cons (.kn (.str "Complex")) (.cons (.nm 2) (.cons (.nm 3) .nil)))) (.cons (.tup (.cons (.nm 1) (.cons (.kn (.int 0)) (.cons (.lst .nil) .nil)))) (.cons (.tup (.cons (.nm 1) (.cons (.kn (.int 8)) (.cons (.lst .nil) .nil)))) (.cons (.tup (.cons (.nm 1) (.cons (.kn (.bl true)) (.cons (.lst .nil) .nil)))) .nil))))))))))) (.cons (.set 4 (.bin .add (.nm 4) (.lst (.cons (.tup (.cons (.nm 1) (.cons (.nm 2) (.cons (.blt .tuple (.cons (.nm 3) .nil)) .nil)))) (.cons (.tup (.cons (.nm 1) (.cons (.nm 2) (.cons (.lst (.cons (.lst .nil) .nil)) .nil)))) (.cons (.dic0) (.cons (.tup (.cons (.nm 1) (.cons (.nm 2) (.cons (.lst (.cons (.lst (.cons (.nm 2) .nil)) .nil)) .nil)))) (.cons (.tup (.cons (.nm 1) (.cons (.nm 2) (.cons (.lst (.cons (.tup (.cons (.kn (.int 0)) .nil)) .nil)) .nil)))) (.cons (.tup (.cons (.nm 1) (.cons (.nm 2) (.cons (.lst (.cons (.lst (.cons (.kn (.bl true)) .nil)) .nil)) .nil)))) (.cons (.tup (.cons (.nm 1) (.cons (.nm 2) (.cons (.lst (.cons (.kn .non) .nil)) .nil)))) .nil)))))))))) (.cons (.ret (.bin .add (.nm 4) (.lst (.cons (.tup (.cons (.nm 1) (.cons (.kn (.int 3)) (.cons (.lst (.cons (.lst (.cons (.kn (.int 1)) .nil)) (.cons (.lst (.cons (.kn (.int 0)) .nil)) .nil))) .nil)))) (.cons (.tup (.cons (.nm 1) (.cons (.kn (.int 3)) (.cons (.lst (.cons (.lst (.cons (.kn (.int 0)) .nil)) (.cons (.lst (.cons (.kn (.int 0)) (.cons (.kn (.int 1)) .nil))) .nil))) .nil)))) (.cons (.tup (.cons (.nm 1) (.cons (.kn (.int 3)) (.cons (.lst (.cons (.lst (.cons (.kn (.int 1)) (.cons (.kn (.int 0)) .nil))) .nil)) .nil)))) (.cons (.tup (.cons (.nm 1) (.cons (.kn (.int 3)) (.cons (.lst (.cons (.lst (.cons (.kn (.int 0)) .nil)) (.cons (.lst (.cons (.kn (.int 0)) .nil)) .nil))) .nil)))) .nil))))))) .nil))))
def b__law_caught : Sms := (.cons (.set 1 (.kn .non)) (.cons (.tri (.cons (.exp (.cac 0 .nil)) .nil) [0, 1, 2, 3, 4, 5] [] 2 (.keep 1)) (.cons (.ife (.cmp .is_ (.nm 1) (.kn .non)) (.cons (.ret (.kn .non)) .nil) .nil) (.cons (.set 3 (.lst (.cons (.blt (.isi (.exc x_InvalidComplex)) (.cons (.nm 1) .nil)) (.cons (.blt (.isi (.exc x_Unlike)) (.cons (.nm 1) .nil)) (.cons (.blt (.isi (.exc x_InvalidList)) (.cons (.nm 1) .nil)) .nil))))) (.cons (.ret (.lst (.cons (.bin .add (.nm 3) (.lst (.cons (.blt (.isi (.exc x_InvalidFace)) (.cons (.nm 1) .nil)) (.cons (.blt (.isi (.exc x_TooMany)) (.cons (.nm 1) .nil)) (.cons (.blt (.isi .ver) (.cons (.nm 1) .nil)) .nil))))) (.cons (.blt .repr (.cons (.val (.nm 1)) .nil)) .nil)))) .nil)))))
def b__law_asked : Sms := (.cons (.mkl [(0, [0]), (1, [0]), (2, [0]), (3, [0]), (4, [0]), (5, [0]), (6, [0]), (7, [0]), (8, [0]), (9, [0])]) .nil)
def l_law_0 : Sms := (.cons (.ife (.cmp .ne (.pur f__law_caught (.cons (.nm 6) .nil)) (.lst (.cons (.lst (.cons (.kn (.bl false)) (.cons (.kn (.bl true)) (.cons (.kn (.bl false)) (.cons (.kn (.bl false)) (.cons (.kn (.bl false)) (.cons (.kn (.bl true)) .nil))))))) (.cons (.blt .repr (.cons (.nm 4) .nil)) .nil)))) (.cons (.ret (.kn (.bl false))) .nil) .nil) .nil)
def l_law_1 : Sms := (.cons (.for_ [6] false (.lis (.pur f__law_asked (.cons (.nm 4) .nil))) l_law_0) .nil)
def l_law_2 : Sms := (.cons (.ife (.or (.cmp .ne (.pur f__law_caught (.cons (.nm 6) .nil)) (.lst (.cons (.lst (.cons (.kn (.bl true)) (.cons (.kn (.bl false)) (.cons (.kn (.bl false)) (.cons (.kn (.bl false)) (.cons (.kn (.bl false)) (.cons (.kn (.bl true)) .nil))))))) (.cons (.nm 5) .nil)))) (.cmp .ne (.blt .repr (.cons (.nm 4) .nil)) (.nm 5))) (.cons (.ret (.kn (.bl false))) .nil) .nil) .nil)
def l_law_3 : Sms := (.cons (.set 5 (.blt .repr (.cons (.nm 4) .nil))) (.cons (.for_ [6] false (.lis (.pur f__law_asked (.cons (.nm 4) .nil))) l_law_2) .nil))
def l_law_4 : Sms := (.cons (.set 2 (.cal f__law_generator (.cons (.nm 0) (.cons (.nm 1) .nil)))) (.cons (.set 3 (.cal f__law_body (.cons (.nm 2) (.cons (.kn (.int 5)) (.cons (.kn (.int 4)) .nil))))) (.cons (.for_ [4] false (.lis (.pur f__law_odd_bodies (.cons (.nm 3) .nil))) l_law_3) (.cons (.for_ [4] false (.lis (.lst (.cons (.tup (.cons (.kn (.str "complex")) (.cons (.kn (.int 3)) (.cons (.lst (.cons (.lst (.cons (.kn (.int 0)) .nil)) (.cons (.lst (.cons (.kn (.int 1)) (.cons (.kn (.int 2)) .nil))) .nil))) .nil)))) (.cons (.tup (.cons (.kn (.str "complex")) (.cons (.kn (.int 5)) (.cons (.lst (.cons (.lst (.cons (.kn (.int 0)) (.cons (.kn (.int 1)) (.cons (.kn (.int 2)) .nil)))) (.cons (.lst (.cons (.kn (.int 2)) (.cons (.kn (.int 3)) .nil))) (.cons (.lst (.cons (.kn (.int 3)) (.cons (.kn (.int 4)) .nil))) .nil)))) .nil)))) (.cons (.tup (.cons (.kn (.str "complex")) (.cons (.kn (.int 4)) (.cons (.lst (.cons (.lst (.cons (.kn (.int 0)) (.cons (.kn (.int 1)) .nil))) (.cons (.lst (.cons (.kn (.int 1)) (.cons (.kn (.int 2)) (.cons (.kn (.int 3)) .nil)))) .nil))) .nil)))) .nil))))) l_law_1) .nil))))
def b_law : Sms := (.cons (.for_ [1] false (.rg1 (.kn (.int 2))) l_law_4) (.cons (.ret (.and (.pur f_is_shell (.cons (.tup (.cons (.kn (.str "complex")) (.cons (.kn (.int 1)) (.cons (.lst .nil) .nil)))) (.cons (.lst .nil) .nil))) (.cmp .eq (.pur f_h_numbers (.cons (.tup (.cons (.kn (.str "complex")) (.cons (.kn (.int 7)) (.cons (.lst (.cons (.lst (.cons (.kn (.int 0)) (.cons (.kn (.int 1)) (.cons (.kn (.int 2)) (.cons (.kn (.int 3)) (.cons (.kn (.int 4)) (.cons (.kn (.int 5)) (.cons (.kn (.int 6)) .nil)))))))) .nil)) .nil)))) .nil)) (.lst (.cons (.kn (.int 1)) (.cons (.kn (.int 0)) (.cons (.kn (.int 0)) (.cons (.kn (.int 0)) (.cons (.kn (.int 0)) (.cons (.kn (.int 0)) (.cons (.kn (.int 0)) (.cons (.kn (.int 0)) .nil)))))))))))) .nil))
def y_0 : Ex := (.pur f_is_shell (.cons (.nm 0) (.cons (.kn .non) .nil)))
def y_1 : Ex := (.pur f_shell_or_none (.cons (.nm 0) .nil))
def y_2 : Ex := (.pur f_is_shell_or_none (.cons (.nm 0) (.cons (.kn .non) .nil)))
def y_3 : Ex := (.pur f_new_faces (.cons (.nm 0) (.cons (.kn .non) .nil)))
def y_4 : Ex := (.pur f_end_tops (.cons (.nm 0) (.cons (.kn .non) .nil)))
def y_5 : Ex := (.pur f_link_shell (.cons (.nm 0) (.cons (.kn .non) (.cons (.kn .non) .nil))))
def y_6 : Ex := (.pur f_h_numbers (.cons (.nm 0) .nil))
def y_7 : Ex := (.pur f_is_parting (.cons (.nm 0) (.cons (.kn .non) .nil)))
def y_8 : Ex := (.pur f_parting_or_none (.cons (.nm 0) .nil))
def y_9 : Ex := (.pur f_is_parting_or_none (.cons (.nm 0) (.cons (.kn .non) .nil)))
def fl : List Fn := [⟨1, 1, b_is_whole⟩, ⟨1, 1, b_is_many⟩, ⟨2, 4, b_is_lot_by⟩, ⟨1, 5, b_lots_of⟩, ⟨2, 3, b_is_within⟩, ⟨1, 5, b_is_complex_by⟩, ⟨1, 1, b_check_complex⟩, ⟨1, 1, b_many_in⟩, ⟨1, 2, b_tops_in⟩, ⟨2, 3, b_has_face⟩, ⟨1, 2, b_faces_by⟩, ⟨2, 3, b_faces_at⟩, ⟨1, 2, b_dimension_of⟩, ⟨2, 2, b_is_face_by⟩, ⟨2, 2, b_check_face⟩, ⟨1, 2, b_check_even⟩, ⟨1, 2, b_sides_by⟩, ⟨2, 3, b_common⟩, ⟨3, 8, b_goes_on⟩, ⟨2, 3, b_is_order_of⟩, ⟨2, 4, b_is_shell_by⟩, ⟨2, 2, b_is_shell⟩, ⟨2, 2, b_check_shelled⟩, ⟨1, 1, b_check_few_tops⟩, ⟨1, 6, b_shell_by⟩, ⟨1, 2, b_shell_or_none⟩, ⟨2, 2, b_is_shell_or_none⟩, ⟨2, 11, b_new_by⟩, ⟨2, 2, b_new_faces⟩, ⟨2, 5, b_end_tops⟩, ⟨3, 8, b_link_shell⟩, ⟨2, 6, b_between⟩, ⟨2, 6, b_is_parting_by⟩, ⟨2, 2, b_is_parting⟩, ⟨2, 11, b_parting_by⟩, ⟨1, 2, b_find_parting⟩, ⟨1, 2, b_parting_or_none⟩, ⟨2, 2, b_is_parting_or_none⟩, ⟨2, 4, b_choices⟩, ⟨1, 1, b_is_odd⟩, ⟨2, 7, b_h_by⟩, ⟨1, 3, b_h_numbers⟩, ⟨2, 3, b__law_hash⟩, ⟨2, 4, b__law_random⟩, ⟨2, 2, b__law_cell⟩, ⟨2, 3, b__law_generator⟩, ⟨2, 4, b__law_drawn_order⟩, ⟨1, 4, b__law_lots⟩, ⟨2, 3, b__law_in⟩, ⟨2, 5, b__law_complex⟩, ⟨3, 6, b__law_body⟩, ⟨1, 5, b__law_odd_bodies⟩, ⟨1, 4, b__law_caught⟩, ⟨1, 2, b__law_asked⟩, ⟨1, 7, b_law⟩, ⟨1, 1, .cons (.ret y_0) .nil⟩, ⟨1, 1, .cons (.ret y_1) .nil⟩, ⟨1, 1, .cons (.ret y_2) .nil⟩, ⟨1, 1, .cons (.ret y_3) .nil⟩, ⟨1, 1, .cons (.ret y_4) .nil⟩, ⟨1, 1, .cons (.ret y_5) .nil⟩, ⟨1, 1, .cons (.ret y_6) .nil⟩, ⟨1, 1, .cons (.ret y_7) .nil⟩, ⟨1, 1, .cons (.ret y_8) .nil⟩, ⟨1, 1, .cons (.ret y_9) .nil⟩]
theorem lk_lam_0 : fl[55]? = some ⟨1, 1, .cons (.ret y_0) .nil⟩ := rfl
theorem lk_lam_1 : fl[56]? = some ⟨1, 1, .cons (.ret y_1) .nil⟩ := rfl
theorem lk_lam_2 : fl[57]? = some ⟨1, 1, .cons (.ret y_2) .nil⟩ := rfl
theorem lk_lam_3 : fl[58]? = some ⟨1, 1, .cons (.ret y_3) .nil⟩ := rfl
theorem lk_lam_4 : fl[59]? = some ⟨1, 1, .cons (.ret y_4) .nil⟩ := rfl
theorem lk_lam_5 : fl[60]? = some ⟨1, 1, .cons (.ret y_5) .nil⟩ := rfl
theorem lk_lam_6 : fl[61]? = some ⟨1, 1, .cons (.ret y_6) .nil⟩ := rfl
theorem lk_lam_7 : fl[62]? = some ⟨1, 1, .cons (.ret y_7) .nil⟩ := rfl
theorem lk_lam_8 : fl[63]? = some ⟨1, 1, .cons (.ret y_8) .nil⟩ := rfl
theorem lk_lam_9 : fl[64]? = some ⟨1, 1, .cons (.ret y_9) .nil⟩ := rfl
theorem lk_is_whole : fl[f_is_whole]? = some ⟨1, 1, b_is_whole⟩ := rfl
theorem lk_is_many : fl[f_is_many]? = some ⟨1, 1, b_is_many⟩ := rfl
theorem lk_is_lot_by : fl[f_is_lot_by]? = some ⟨2, 4, b_is_lot_by⟩ := rfl
theorem lk_lots_of : fl[f_lots_of]? = some ⟨1, 5, b_lots_of⟩ := rfl
theorem lk_is_within : fl[f_is_within]? = some ⟨2, 3, b_is_within⟩ := rfl
theorem lk_is_complex_by : fl[f_is_complex_by]? = some ⟨1, 5, b_is_complex_by⟩ := rfl
theorem lk_check_complex : fl[f_check_complex]? = some ⟨1, 1, b_check_complex⟩ := rfl
theorem lk_many_in : fl[f_many_in]? = some ⟨1, 1, b_many_in⟩ := rfl
theorem lk_tops_in : fl[f_tops_in]? = some ⟨1, 2, b_tops_in⟩ := rfl
theorem lk_has_face : fl[f_has_face]? = some ⟨2, 3, b_has_face⟩ := rfl
theorem lk_faces_by : fl[f_faces_by]? = some ⟨1, 2, b_faces_by⟩ := rfl
theorem lk_faces_at : fl[f_faces_at]? = some ⟨2, 3, b_faces_at⟩ := rfl
theorem lk_dimension_of : fl[f_dimension_of]? = some ⟨1, 2, b_dimension_of⟩ := rfl
theorem lk_is_face_by : fl[f_is_face_by]? = some ⟨2, 2, b_is_face_by⟩ := rfl
theorem lk_check_face : fl[f_check_face]? = some ⟨2, 2, b_check_face⟩ := rfl
theorem lk_check_even : fl[f_check_even]? = some ⟨1, 2, b_check_even⟩ := rfl
theorem lk_sides_by : fl[f_sides_by]? = some ⟨1, 2, b_sides_by⟩ := rfl
theorem lk_common : fl[f_common]? = some ⟨2, 3, b_common⟩ := rfl
theorem lk_goes_on : fl[f_goes_on]? = some ⟨3, 8, b_goes_on⟩ := rfl
theorem lk_is_order_of : fl[f_is_order_of]? = some ⟨2, 3, b_is_order_of⟩ := rfl
theorem lk_is_shell_by : fl[f_is_shell_by]? = some ⟨2, 4, b_is_shell_by⟩ := rfl
theorem lk_is_shell : fl[f_is_shell]? = some ⟨2, 2, b_is_shell⟩ := rfl
theorem lk_check_shelled : fl[f_check_shelled]? = some ⟨2, 2, b_check_shelled⟩ := rfl
theorem lk_check_few_tops : fl[f_check_few_tops]? = some ⟨1, 1, b_check_few_tops⟩ := rfl
theorem lk_shell_by : fl[f_shell_by]? = some ⟨1, 6, b_shell_by⟩ := rfl
theorem lk_shell_or_none : fl[f_shell_or_none]? = some ⟨1, 2, b_shell_or_none⟩ := rfl
theorem lk_is_shell_or_none : fl[f_is_shell_or_none]? = some ⟨2, 2, b_is_shell_or_none⟩ := rfl
theorem lk_new_by : fl[f_new_by]? = some ⟨2, 11, b_new_by⟩ := rfl
theorem lk_new_faces : fl[f_new_faces]? = some ⟨2, 2, b_new_faces⟩ := rfl
theorem lk_end_tops : fl[f_end_tops]? = some ⟨2, 5, b_end_tops⟩ := rfl
theorem lk_link_shell : fl[f_link_shell]? = some ⟨3, 8, b_link_shell⟩ := rfl
theorem lk_between : fl[f_between]? = some ⟨2, 6, b_between⟩ := rfl
theorem lk_is_parting_by : fl[f_is_parting_by]? = some ⟨2, 6, b_is_parting_by⟩ := rfl
theorem lk_is_parting : fl[f_is_parting]? = some ⟨2, 2, b_is_parting⟩ := rfl
theorem lk_parting_by : fl[f_parting_by]? = some ⟨2, 11, b_parting_by⟩ := rfl
theorem lk_find_parting : fl[f_find_parting]? = some ⟨1, 2, b_find_parting⟩ := rfl
theorem lk_parting_or_none : fl[f_parting_or_none]? = some ⟨1, 2, b_parting_or_none⟩ := rfl
theorem lk_is_parting_or_none : fl[f_is_parting_or_none]? = some ⟨2, 2, b_is_parting_or_none⟩ := rfl
theorem lk_choices : fl[f_choices]? = some ⟨2, 4, b_choices⟩ := rfl
theorem lk_is_odd : fl[f_is_odd]? = some ⟨1, 1, b_is_odd⟩ := rfl
theorem lk_h_by : fl[f_h_by]? = some ⟨2, 7, b_h_by⟩ := rfl
theorem lk_h_numbers : fl[f_h_numbers]? = some ⟨1, 3, b_h_numbers⟩ := rfl
theorem lk__law_hash : fl[f__law_hash]? = some ⟨2, 3, b__law_hash⟩ := rfl
theorem lk__law_random : fl[f__law_random]? = some ⟨2, 4, b__law_random⟩ := rfl
theorem lk__law_cell : fl[f__law_cell]? = some ⟨2, 2, b__law_cell⟩ := rfl
theorem lk__law_generator : fl[f__law_generator]? = some ⟨2, 3, b__law_generator⟩ := rfl
theorem lk__law_drawn_order : fl[f__law_drawn_order]? = some ⟨2, 4, b__law_drawn_order⟩ := rfl
theorem lk__law_lots : fl[f__law_lots]? = some ⟨1, 4, b__law_lots⟩ := rfl
theorem lk__law_in : fl[f__law_in]? = some ⟨2, 3, b__law_in⟩ := rfl
theorem lk__law_complex : fl[f__law_complex]? = some ⟨2, 5, b__law_complex⟩ := rfl
theorem lk__law_body : fl[f__law_body]? = some ⟨3, 6, b__law_body⟩ := rfl
theorem lk__law_odd_bodies : fl[f__law_odd_bodies]? = some ⟨1, 5, b__law_odd_bodies⟩ := rfl
theorem lk__law_caught : fl[f__law_caught]? = some ⟨1, 4, b__law_caught⟩ := rfl
theorem lk__law_asked : fl[f__law_asked]? = some ⟨1, 2, b__law_asked⟩ := rfl
theorem lk_law : fl[f_law]? = some ⟨1, 7, b_law⟩ := rfl
abbrev NF : Nat := 55
end L
end MP
end
section
set_option maxRecDepth 100000
set_option maxHeartbeats 0
namespace MP
namespace L
open PySem PySem.Spec PyProof.Rows L2
def top (i : Nat) : Stmt := PySem.Challenge.pw_holestold_k84_shells_refused.main.body.getD i (.Pass ⟨0, 0, 0, 0⟩)
def lams : List (List Str) := [["body"], ["body"], ["body"], ["body"], ["body"], ["body"], ["body"], ["body"], ["body"], ["body"]]
def T0 : Tab := ⟨[Str.ofString "is_whole", Str.ofString "is_many", Str.ofString "is_lot_by", Str.ofString "lots_of", Str.ofString "is_within", Str.ofString "is_complex_by", Str.ofString "check_complex", Str.ofString "many_in", Str.ofString "tops_in", Str.ofString "has_face", Str.ofString "faces_by", Str.ofString "faces_at", Str.ofString "dimension_of", Str.ofString "is_face_by", Str.ofString "check_face", Str.ofString "check_even", Str.ofString "sides_by", Str.ofString "common", Str.ofString "goes_on", Str.ofString "is_order_of", Str.ofString "is_shell_by", Str.ofString "is_shell", Str.ofString "check_shelled", Str.ofString "check_few_tops", Str.ofString "shell_by", Str.ofString "shell_or_none", Str.ofString "is_shell_or_none", Str.ofString "new_by", Str.ofString "new_faces", Str.ofString "end_tops", Str.ofString "link_shell", Str.ofString "between", Str.ofString "is_parting_by", Str.ofString "is_parting", Str.ofString "parting_by", Str.ofString "find_parting", Str.ofString "parting_or_none", Str.ofString "is_parting_or_none", Str.ofString "choices", Str.ofString "is_odd", Str.ofString "h_by", Str.ofString "h_numbers", Str.ofString "_law_hash", Str.ofString "_law_random", Str.ofString "_law_cell", Str.ofString "_law_generator", Str.ofString "_law_drawn_order", Str.ofString "_law_lots", Str.ofString "_law_in", Str.ofString "_law_complex", Str.ofString "_law_body", Str.ofString "_law_odd_bodies", Str.ofString "_law_caught", Str.ofString "_law_asked", Str.ofString "law"], ["MOST_POINTS", "MOST_TOPS", "MOST_SHELLED"], ["HoleError", "InvalidComplex", "InvalidFace", "InvalidList", "Unlike", "TooMany"], [], [53], fun _ _ _ _ => false, fun j => lams.getD j []⟩
def T : Tab := { T0 with lk := lamB T0 fun i => fl[i]? }
def e_is_whole : Ent := ⟨⟨("is_whole", none), "is_whole", "is_whole", defArgs (top 10), defBody (top 10), defScope (top 10), [], []⟩, ["value"], ["value"], ⟨1, 1, b_is_whole⟩, false⟩
def e_is_many : Ent := ⟨⟨("is_many", none), "is_many", "is_many", defArgs (top 11), defBody (top 11), defScope (top 11), [], []⟩, ["value"], ["value"], ⟨1, 1, b_is_many⟩, false⟩
def e_is_lot_by : Ent := ⟨⟨("is_lot_by", none), "is_lot_by", "is_lot_by", defArgs (top 12), defBody (top 12), defScope (top 12), [], []⟩, ["many", "value", "one", "at"], ["many", "value"], ⟨2, 4, b_is_lot_by⟩, false⟩
def e_lots_of : Ent := ⟨⟨("lots_of", none), "lots_of", "lots_of", defArgs (top 13), defBody (top 13), defScope (top 13), [], []⟩, ["many", "found", "point", "lot", "_"], ["many"], ⟨1, 5, b_lots_of⟩, false⟩
def e_is_within : Ent := ⟨⟨("is_within", none), "is_within", "is_within", defArgs (top 14), defBody (top 14), defScope (top 14), [], []⟩, ["one", "other", "point"], ["one", "other"], ⟨2, 3, b_is_within⟩, false⟩
def e_is_complex_by : Ent := ⟨⟨("is_complex_by", none), "is_complex_by", "is_complex_by", defArgs (top 15), defBody (top 15), defScope (top 15), [], []⟩, ["value", "tops", "top", "at", "other"], ["value"], ⟨1, 5, b_is_complex_by⟩, false⟩
def e_check_complex : Ent := ⟨⟨("check_complex", none), "check_complex", "check_complex", defArgs (top 16), defBody (top 16), defScope (top 16), [], []⟩, ["body"], ["body"], ⟨1, 1, b_check_complex⟩, false⟩
def e_many_in : Ent := ⟨⟨("many_in", none), "many_in", "many_in", defArgs (top 17), defBody (top 17), defScope (top 17), [], []⟩, ["body"], ["body"], ⟨1, 1, b_many_in⟩, false⟩
def e_tops_in : Ent := ⟨⟨("tops_in", none), "tops_in", "tops_in", defArgs (top 18), defBody (top 18), defScope (top 18), [], []⟩, ["body", "top"], ["body"], ⟨1, 2, b_tops_in⟩, false⟩
def e_has_face : Ent := ⟨⟨("has_face", none), "has_face", "has_face", defArgs (top 19), defBody (top 19), defScope (top 19), [], []⟩, ["body", "lot", "top"], ["body", "lot"], ⟨2, 3, b_has_face⟩, false⟩
def e_faces_by : Ent := ⟨⟨("faces_by", none), "faces_by", "faces_by", defArgs (top 20), defBody (top 20), defScope (top 20), [], []⟩, ["body", "lot"], ["body"], ⟨1, 2, b_faces_by⟩, false⟩
def e_faces_at : Ent := ⟨⟨("faces_at", none), "faces_at", "faces_at", defArgs (top 21), defBody (top 21), defScope (top 21), [], []⟩, ["body", "dimension", "face"], ["body", "dimension"], ⟨2, 3, b_faces_at⟩, false⟩
def e_dimension_of : Ent := ⟨⟨("dimension_of", none), "dimension_of", "dimension_of", defArgs (top 22), defBody (top 22), defScope (top 22), [], []⟩, ["body", "top"], ["body"], ⟨1, 2, b_dimension_of⟩, false⟩
def e_is_face_by : Ent := ⟨⟨("is_face_by", none), "is_face_by", "is_face_by", defArgs (top 23), defBody (top 23), defScope (top 23), [], []⟩, ["body", "value"], ["body", "value"], ⟨2, 2, b_is_face_by⟩, false⟩
def e_check_face : Ent := ⟨⟨("check_face", none), "check_face", "check_face", defArgs (top 24), defBody (top 24), defScope (top 24), [], []⟩, ["body", "face"], ["body", "face"], ⟨2, 2, b_check_face⟩, false⟩
def e_check_even : Ent := ⟨⟨("check_even", none), "check_even", "check_even", defArgs (top 27), defBody (top 27), defScope (top 27), [], []⟩, ["body", "top"], ["body"], ⟨1, 2, b_check_even⟩, false⟩
def e_sides_by : Ent := ⟨⟨("sides_by", none), "sides_by", "sides_by", defArgs (top 28), defBody (top 28), defScope (top 28), [], []⟩, ["top", "at"], ["top"], ⟨1, 2, b_sides_by⟩, false⟩
def e_common : Ent := ⟨⟨("common", none), "common", "common", defArgs (top 29), defBody (top 29), defScope (top 29), [], []⟩, ["one", "other", "point"], ["one", "other"], ⟨2, 3, b_common⟩, false⟩
def e_goes_on : Ent := ⟨⟨("goes_on", none), "goes_on", "goes_on", defArgs (top 30), defBody (top 30), defScope (top 30), [], []⟩, ["tops", "ahead", "place", "other", "met", "side", "lot", "sides"], ["tops", "ahead", "place"], ⟨3, 8, b_goes_on⟩, false⟩
def e_is_order_of : Ent := ⟨⟨("is_order_of", none), "is_order_of", "is_order_of", defArgs (top 31), defBody (top 31), defScope (top 31), [], []⟩, ["many", "value", "one"], ["many", "value"], ⟨2, 3, b_is_order_of⟩, false⟩
def e_is_shell_by : Ent := ⟨⟨("is_shell_by", none), "is_shell_by", "is_shell_by", defArgs (top 32), defBody (top 32), defScope (top 32), [], []⟩, ["tops", "value", "at", "place"], ["tops", "value"], ⟨2, 4, b_is_shell_by⟩, false⟩
def e_is_shell : Ent := ⟨⟨("is_shell", none), "is_shell", "is_shell", defArgs (top 33), defBody (top 33), defScope (top 33), [], []⟩, ["body", "value"], ["body", "value"], ⟨2, 2, b_is_shell⟩, false⟩
def e_check_shelled : Ent := ⟨⟨("check_shelled", none), "check_shelled", "check_shelled", defArgs (top 34), defBody (top 34), defScope (top 34), [], []⟩, ["body", "order"], ["body", "order"], ⟨2, 2, b_check_shelled⟩, false⟩
def e_check_few_tops : Ent := ⟨⟨("check_few_tops", none), "check_few_tops", "check_few_tops", defArgs (top 35), defBody (top 35), defScope (top 35), [], []⟩, ["body"], ["body"], ⟨1, 1, b_check_few_tops⟩, false⟩
def e_shell_by : Ent := ⟨⟨("shell_by", none), "shell_by", "shell_by", defArgs (top 36), defBody (top 36), defScope (top 36), [], []⟩, ["tops", "seen", "here", "order", "place", "late"], ["tops"], ⟨1, 6, b_shell_by⟩, false⟩
def e_shell_or_none : Ent := ⟨⟨("shell_or_none", none), "shell_or_none", "shell_or_none", defArgs (top 37), defBody (top 37), defScope (top 37), [], []⟩, ["body", "order"], ["body"], ⟨1, 2, b_shell_or_none⟩, false⟩
def e_is_shell_or_none : Ent := ⟨⟨("is_shell_or_none", none), "is_shell_or_none", "is_shell_or_none", defArgs (top 38), defBody (top 38), defScope (top 38), [], []⟩, ["body", "value"], ["body", "value"], ⟨2, 2, b_is_shell_or_none⟩, false⟩
def e_new_by : Ent := ⟨⟨("new_by", none), "new_by", "new_by", defArgs (top 39), defBody (top 39), defScope (top 39), [], []⟩, ["tops", "order", "found", "at", "place", "other", "top", "ahead", "side", "sides", "point"], ["tops", "order"], ⟨2, 11, b_new_by⟩, false⟩
def e_new_faces : Ent := ⟨⟨("new_faces", none), "new_faces", "new_faces", defArgs (top 40), defBody (top 40), defScope (top 40), [], []⟩, ["body", "order"], ["body", "order"], ⟨2, 2, b_new_faces⟩, false⟩
def e_end_tops : Ent := ⟨⟨("end_tops", none), "end_tops", "end_tops", defArgs (top 41), defBody (top 41), defScope (top 41), [], []⟩, ["body", "order", "tops", "place", "lot"], ["body", "order"], ⟨2, 5, b_end_tops⟩, false⟩
def e_link_shell : Ent := ⟨⟨("link_shell", none), "link_shell", "link_shell", defArgs (top 42), defBody (top 42), defScope (top 42), [], []⟩, ["body", "order", "face", "tops", "place", "point", "lots", "lot"], ["body", "order", "face"], ⟨3, 8, b_link_shell⟩, false⟩
def e_between : Ent := ⟨⟨("between", none), "between", "between", defArgs (top 44), defBody (top 44), defScope (top 44), [], []⟩, ["lot", "top", "point", "rest", "some", "at"], ["lot", "top"], ⟨2, 6, b_between⟩, false⟩
def e_is_parting_by : Ent := ⟨⟨("is_parting_by", none), "is_parting_by", "is_parting_by", defArgs (top 45), defBody (top 45), defScope (top 45), [], []⟩, ["body", "value", "tops", "told", "lot", "top"], ["body", "value"], ⟨2, 6, b_is_parting_by⟩, false⟩
def e_is_parting : Ent := ⟨⟨("is_parting", none), "is_parting", "is_parting", defArgs (top 46), defBody (top 46), defScope (top 46), [], []⟩, ["body", "value"], ["body", "value"], ⟨2, 2, b_is_parting⟩, false⟩
def e_parting_by : Ent := ⟨⟨("parting_by", none), "parting_by", "parting_by", defArgs (top 47), defBody (top 47), defScope (top 47), [], []⟩, ["tops", "whole", "here", "lots", "told", "top", "some", "at", "lot", "own", "one"], ["tops", "whole"], ⟨2, 11, b_parting_by⟩, false⟩
def e_find_parting : Ent := ⟨⟨("find_parting", none), "find_parting", "find_parting", defArgs (top 48), defBody (top 48), defScope (top 48), [], []⟩, ["body", "tops"], ["body"], ⟨1, 2, b_find_parting⟩, false⟩
def e_parting_or_none : Ent := ⟨⟨("parting_or_none", none), "parting_or_none", "parting_or_none", defArgs (top 49), defBody (top 49), defScope (top 49), [], []⟩, ["body", "lots"], ["body"], ⟨1, 2, b_parting_or_none⟩, false⟩
def e_is_parting_or_none : Ent := ⟨⟨("is_parting_or_none", none), "is_parting_or_none", "is_parting_or_none", defArgs (top 50), defBody (top 50), defScope (top 50), [], []⟩, ["body", "value"], ["body", "value"], ⟨2, 2, b_is_parting_or_none⟩, false⟩
def e_choices : Ent := ⟨⟨("choices", none), "choices", "choices", defArgs (top 52), defBody (top 52), defScope (top 52), [], []⟩, ["many", "few", "found", "at"], ["many", "few"], ⟨2, 4, b_choices⟩, false⟩
def e_is_odd : Ent := ⟨⟨("is_odd", none), "is_odd", "is_odd", defArgs (top 53), defBody (top 53), defScope (top 53), [], []⟩, ["number"], ["number"], ⟨1, 1, b_is_odd⟩, false⟩
def e_h_by : Ent := ⟨⟨("h_by", none), "h_by", "h_by", defArgs (top 54), defBody (top 54), defScope (top 54), [], []⟩, ["counts", "size", "found", "at", "worth", "few", "part"], ["counts", "size"], ⟨2, 7, b_h_by⟩, false⟩
def e_h_numbers : Ent := ⟨⟨("h_numbers", none), "h_numbers", "h_numbers", defArgs (top 55), defBody (top 55), defScope (top 55), [], []⟩, ["body", "size", "dimension"], ["body"], ⟨1, 3, b_h_numbers⟩, false⟩
def e__law_hash : Ent := ⟨⟨("_law_hash", none), "_law_hash", "_law_hash", defArgs (top 57), defBody (top 57), defScope (top 57), [], []⟩, ["seed", "index", "mixed"], ["seed", "index"], ⟨2, 3, b__law_hash⟩, false⟩
def e__law_random : Ent := ⟨⟨("_law_random", none), "_law_random", "_law_random", defArgs (top 58), defBody (top 58), defScope (top 58), [], []⟩, ["generator", "bound", "drawn", "turn"], ["generator", "bound"], ⟨2, 4, b__law_random⟩, false⟩
def e__law_cell : Ent := ⟨⟨("_law_cell", none), "_law_cell", "_law_cell", defArgs (top 59), defBody (top 59), defScope (top 59), [], []⟩, ["script", "index"], ["script", "index"], ⟨2, 2, b__law_cell⟩, false⟩
def e__law_generator : Ent := ⟨⟨("_law_generator", none), "_law_generator", "_law_generator", defArgs (top 60), defBody (top 60), defScope (top 60), [], []⟩, ["script", "index", "seed"], ["script", "index"], ⟨2, 3, b__law_generator⟩, false⟩
def e__law_drawn_order : Ent := ⟨⟨("_law_drawn_order", none), "_law_drawn_order", "_law_drawn_order", defArgs (top 61), defBody (top 61), defScope (top 61), [], []⟩, ["generator", "row", "left", "found"], ["generator", "row"], ⟨2, 4, b__law_drawn_order⟩, false⟩
def e__law_lots : Ent := ⟨⟨("_law_lots", none), "_law_lots", "_law_lots", defArgs (top 62), defBody (top 62), defScope (top 62), [], []⟩, ["many", "found", "number", "lot"], ["many"], ⟨1, 4, b__law_lots⟩, false⟩
def e__law_in : Ent := ⟨⟨("_law_in", none), "_law_in", "_law_in", defArgs (top 63), defBody (top 63), defScope (top 63), [], []⟩, ["one", "other", "point"], ["one", "other"], ⟨2, 3, b__law_in⟩, false⟩
def e__law_complex : Ent := ⟨⟨("_law_complex", none), "_law_complex", "_law_complex", defArgs (top 64), defBody (top 64), defScope (top 64), [], []⟩, ["many", "lots", "found", "lot", "other"], ["many", "lots"], ⟨2, 5, b__law_complex⟩, false⟩
def e__law_body : Ent := ⟨⟨("_law_body", none), "_law_body", "_law_body", defArgs (top 65), defBody (top 65), defScope (top 65), [], []⟩, ["generator", "most", "wide", "many", "lot", "lots"], ["generator", "most", "wide"], ⟨3, 6, b__law_body⟩, false⟩
def e__law_odd_bodies : Ent := ⟨⟨("_law_odd_bodies", none), "_law_odd_bodies", "_law_odd_bodies", defArgs (top 66), defBody (top 66), defScope (top 66), [], []⟩, ["body", "word", "many", "tops", "found"], ["body"], ⟨1, 5, b__law_odd_bodies⟩, false⟩
def e__law_caught : Ent := ⟨⟨("_law_caught", none), "_law_caught", "_law_caught", defArgs (top 67), defBody (top 67), defScope (top 67), [], []⟩, ["call", "error", "e", "kinds"], ["call"], ⟨1, 4, b__law_caught⟩, false⟩
def e__law_asked : Ent := ⟨⟨("_law_asked", none), "_law_asked", "_law_asked", defArgs (top 68), defBody (top 68), defScope (top 68), [], []⟩, ["body", "asked"], ["body"], ⟨1, 2, b__law_asked⟩, true⟩
def e_law : Ent := ⟨⟨("law", none), "law", "law", defArgs (top 69), defBody (top 69), defScope (top 69), [], []⟩, ["script", "index", "generator", "body", "wrong", "shown", "call"], ["script"], ⟨1, 7, b_law⟩, false⟩
def es : List Ent := [e_is_whole, e_is_many, e_is_lot_by, e_lots_of, e_is_within, e_is_complex_by, e_check_complex, e_many_in, e_tops_in, e_has_face, e_faces_by, e_faces_at, e_dimension_of, e_is_face_by, e_check_face, e_check_even, e_sides_by, e_common, e_goes_on, e_is_order_of, e_is_shell_by, e_is_shell, e_check_shelled, e_check_few_tops, e_shell_by, e_shell_or_none, e_is_shell_or_none, e_new_by, e_new_faces, e_end_tops, e_link_shell, e_between, e_is_parting_by, e_is_parting, e_parting_by, e_find_parting, e_parting_or_none, e_is_parting_or_none, e_choices, e_is_odd, e_h_by, e_h_numbers, e__law_hash, e__law_random, e__law_cell, e__law_generator, e__law_drawn_order, e__law_lots, e__law_in, e__law_complex, e__law_body, e__law_odd_bodies, e__law_caught, e__law_asked, e_law]
theorem ok_is_whole : entB T e_is_whole = true := by kernel_rfl
theorem ok_is_many : entB T e_is_many = true := by kernel_rfl
theorem ok_is_lot_by : entB T e_is_lot_by = true := by kernel_rfl
theorem ok_lots_of : entB T e_lots_of = true := by kernel_rfl
theorem ok_is_within : entB T e_is_within = true := by kernel_rfl
theorem ok_is_complex_by : entB T e_is_complex_by = true := by kernel_rfl
theorem ok_check_complex : entB T e_check_complex = true := by kernel_rfl
theorem ok_many_in : entB T e_many_in = true := by kernel_rfl
theorem ok_tops_in : entB T e_tops_in = true := by kernel_rfl
theorem ok_has_face : entB T e_has_face = true := by kernel_rfl
theorem ok_faces_by : entB T e_faces_by = true := by kernel_rfl
theorem ok_faces_at : entB T e_faces_at = true := by kernel_rfl
theorem ok_dimension_of : entB T e_dimension_of = true := by kernel_rfl
theorem ok_is_face_by : entB T e_is_face_by = true := by kernel_rfl
theorem ok_check_face : entB T e_check_face = true := by kernel_rfl
theorem ok_check_even : entB T e_check_even = true := by kernel_rfl
theorem ok_sides_by : entB T e_sides_by = true := by kernel_rfl
theorem ok_common : entB T e_common = true := by kernel_rfl
theorem ok_goes_on : entB T e_goes_on = true := by kernel_rfl
theorem ok_is_order_of : entB T e_is_order_of = true := by kernel_rfl
theorem ok_is_shell_by : entB T e_is_shell_by = true := by kernel_rfl
theorem ok_is_shell : entB T e_is_shell = true := by kernel_rfl
theorem ok_check_shelled : entB T e_check_shelled = true := by kernel_rfl
theorem ok_check_few_tops : entB T e_check_few_tops = true := by kernel_rfl
theorem ok_shell_by : entB T e_shell_by = true := by kernel_rfl
theorem ok_shell_or_none : entB T e_shell_or_none = true := by kernel_rfl
theorem ok_is_shell_or_none : entB T e_is_shell_or_none = true := by kernel_rfl
theorem ok_new_by : entB T e_new_by = true := by kernel_rfl
theorem ok_new_faces : entB T e_new_faces = true := by kernel_rfl
theorem ok_end_tops : entB T e_end_tops = true := by kernel_rfl
theorem ok_link_shell : entB T e_link_shell = true := by kernel_rfl
theorem ok_between : entB T e_between = true := by kernel_rfl
theorem ok_is_parting_by : entB T e_is_parting_by = true := by kernel_rfl
theorem ok_is_parting : entB T e_is_parting = true := by kernel_rfl
theorem ok_parting_by : entB T e_parting_by = true := by kernel_rfl
theorem ok_find_parting : entB T e_find_parting = true := by kernel_rfl
theorem ok_parting_or_none : entB T e_parting_or_none = true := by kernel_rfl
theorem ok_is_parting_or_none : entB T e_is_parting_or_none = true := by kernel_rfl
theorem ok_choices : entB T e_choices = true := by kernel_rfl
theorem ok_is_odd : entB T e_is_odd = true := by kernel_rfl
theorem ok_h_by : entB T e_h_by = true := by kernel_rfl
theorem ok_h_numbers : entB T e_h_numbers = true := by kernel_rfl
theorem ok__law_hash : entB T e__law_hash = true := by kernel_rfl
theorem ok__law_random : entB T e__law_random = true := by kernel_rfl
theorem ok__law_cell : entB T e__law_cell = true := by kernel_rfl
theorem ok__law_generator : entB T e__law_generator = true := by kernel_rfl
theorem ok__law_drawn_order : entB T e__law_drawn_order = true := by kernel_rfl
theorem ok__law_lots : entB T e__law_lots = true := by kernel_rfl
theorem ok__law_in : entB T e__law_in = true := by kernel_rfl
theorem ok__law_complex : entB T e__law_complex = true := by kernel_rfl
theorem ok__law_body : entB T e__law_body = true := by kernel_rfl
theorem ok__law_odd_bodies : entB T e__law_odd_bodies = true := by kernel_rfl
theorem ok__law_caught : entB T e__law_caught = true := by kernel_rfl
theorem ok__law_asked : entB T e__law_asked = true := by kernel_rfl
theorem ok_law : entB T e_law = true := by kernel_rfl
theorem bi_is_whole : BindE e_is_whole := fun _ _ _ _ _ _ us hl => match us, hl with | [_], _ => rfl
theorem bi_is_many : BindE e_is_many := fun _ _ _ _ _ _ us hl => match us, hl with | [_], _ => rfl
theorem bi_is_lot_by : BindE e_is_lot_by := fun _ _ _ _ _ _ us hl => match us, hl with | [_, _], _ => rfl
theorem bi_lots_of : BindE e_lots_of := fun _ _ _ _ _ _ us hl => match us, hl with | [_], _ => rfl
theorem bi_is_within : BindE e_is_within := fun _ _ _ _ _ _ us hl => match us, hl with | [_, _], _ => rfl
theorem bi_is_complex_by : BindE e_is_complex_by := fun _ _ _ _ _ _ us hl => match us, hl with | [_], _ => rfl
theorem bi_check_complex : BindE e_check_complex := fun _ _ _ _ _ _ us hl => match us, hl with | [_], _ => rfl
theorem bi_many_in : BindE e_many_in := fun _ _ _ _ _ _ us hl => match us, hl with | [_], _ => rfl
theorem bi_tops_in : BindE e_tops_in := fun _ _ _ _ _ _ us hl => match us, hl with | [_], _ => rfl
theorem bi_has_face : BindE e_has_face := fun _ _ _ _ _ _ us hl => match us, hl with | [_, _], _ => rfl
theorem bi_faces_by : BindE e_faces_by := fun _ _ _ _ _ _ us hl => match us, hl with | [_], _ => rfl
theorem bi_faces_at : BindE e_faces_at := fun _ _ _ _ _ _ us hl => match us, hl with | [_, _], _ => rfl
theorem bi_dimension_of : BindE e_dimension_of := fun _ _ _ _ _ _ us hl => match us, hl with | [_], _ => rfl
theorem bi_is_face_by : BindE e_is_face_by := fun _ _ _ _ _ _ us hl => match us, hl with | [_, _], _ => rfl
theorem bi_check_face : BindE e_check_face := fun _ _ _ _ _ _ us hl => match us, hl with | [_, _], _ => rfl
theorem bi_check_even : BindE e_check_even := fun _ _ _ _ _ _ us hl => match us, hl with | [_], _ => rfl
theorem bi_sides_by : BindE e_sides_by := fun _ _ _ _ _ _ us hl => match us, hl with | [_], _ => rfl
theorem bi_common : BindE e_common := fun _ _ _ _ _ _ us hl => match us, hl with | [_, _], _ => rfl
theorem bi_goes_on : BindE e_goes_on := fun _ _ _ _ _ _ us hl => match us, hl with | [_, _, _], _ => rfl
theorem bi_is_order_of : BindE e_is_order_of := fun _ _ _ _ _ _ us hl => match us, hl with | [_, _], _ => rfl
theorem bi_is_shell_by : BindE e_is_shell_by := fun _ _ _ _ _ _ us hl => match us, hl with | [_, _], _ => rfl
theorem bi_is_shell : BindE e_is_shell := fun _ _ _ _ _ _ us hl => match us, hl with | [_, _], _ => rfl
theorem bi_check_shelled : BindE e_check_shelled := fun _ _ _ _ _ _ us hl => match us, hl with | [_, _], _ => rfl
theorem bi_check_few_tops : BindE e_check_few_tops := fun _ _ _ _ _ _ us hl => match us, hl with | [_], _ => rfl
theorem bi_shell_by : BindE e_shell_by := fun _ _ _ _ _ _ us hl => match us, hl with | [_], _ => rfl
theorem bi_shell_or_none : BindE e_shell_or_none := fun _ _ _ _ _ _ us hl => match us, hl with | [_], _ => rfl
theorem bi_is_shell_or_none : BindE e_is_shell_or_none := fun _ _ _ _ _ _ us hl => match us, hl with | [_, _], _ => rfl
theorem bi_new_by : BindE e_new_by := fun _ _ _ _ _ _ us hl => match us, hl with | [_, _], _ => rfl
theorem bi_new_faces : BindE e_new_faces := fun _ _ _ _ _ _ us hl => match us, hl with | [_, _], _ => rfl
theorem bi_end_tops : BindE e_end_tops := fun _ _ _ _ _ _ us hl => match us, hl with | [_, _], _ => rfl
theorem bi_link_shell : BindE e_link_shell := fun _ _ _ _ _ _ us hl => match us, hl with | [_, _, _], _ => rfl
theorem bi_between : BindE e_between := fun _ _ _ _ _ _ us hl => match us, hl with | [_, _], _ => rfl
theorem bi_is_parting_by : BindE e_is_parting_by := fun _ _ _ _ _ _ us hl => match us, hl with | [_, _], _ => rfl
theorem bi_is_parting : BindE e_is_parting := fun _ _ _ _ _ _ us hl => match us, hl with | [_, _], _ => rfl
theorem bi_parting_by : BindE e_parting_by := fun _ _ _ _ _ _ us hl => match us, hl with | [_, _], _ => rfl
theorem bi_find_parting : BindE e_find_parting := fun _ _ _ _ _ _ us hl => match us, hl with | [_], _ => rfl
theorem bi_parting_or_none : BindE e_parting_or_none := fun _ _ _ _ _ _ us hl => match us, hl with | [_], _ => rfl
theorem bi_is_parting_or_none : BindE e_is_parting_or_none := fun _ _ _ _ _ _ us hl => match us, hl with | [_, _], _ => rfl
theorem bi_choices : BindE e_choices := fun _ _ _ _ _ _ us hl => match us, hl with | [_, _], _ => rfl
theorem bi_is_odd : BindE e_is_odd := fun _ _ _ _ _ _ us hl => match us, hl with | [_], _ => rfl
theorem bi_h_by : BindE e_h_by := fun _ _ _ _ _ _ us hl => match us, hl with | [_, _], _ => rfl
theorem bi_h_numbers : BindE e_h_numbers := fun _ _ _ _ _ _ us hl => match us, hl with | [_], _ => rfl
theorem bi__law_hash : BindE e__law_hash := fun _ _ _ _ _ _ us hl => match us, hl with | [_, _], _ => rfl
theorem bi__law_random : BindE e__law_random := fun _ _ _ _ _ _ us hl => match us, hl with | [_, _], _ => rfl
theorem bi__law_cell : BindE e__law_cell := fun _ _ _ _ _ _ us hl => match us, hl with | [_, _], _ => rfl
theorem bi__law_generator : BindE e__law_generator := fun _ _ _ _ _ _ us hl => match us, hl with | [_, _], _ => rfl
theorem bi__law_drawn_order : BindE e__law_drawn_order := fun _ _ _ _ _ _ us hl => match us, hl with | [_, _], _ => rfl
theorem bi__law_lots : BindE e__law_lots := fun _ _ _ _ _ _ us hl => match us, hl with | [_], _ => rfl
theorem bi__law_in : BindE e__law_in := fun _ _ _ _ _ _ us hl => match us, hl with | [_, _], _ => rfl
theorem bi__law_complex : BindE e__law_complex := fun _ _ _ _ _ _ us hl => match us, hl with | [_, _], _ => rfl
theorem bi__law_body : BindE e__law_body := fun _ _ _ _ _ _ us hl => match us, hl with | [_, _, _], _ => rfl
theorem bi__law_odd_bodies : BindE e__law_odd_bodies := fun _ _ _ _ _ _ us hl => match us, hl with | [_], _ => rfl
theorem bi__law_caught : BindE e__law_caught := fun _ _ _ _ _ _ us hl => match us, hl with | [_], _ => rfl
theorem bi__law_asked : BindE e__law_asked := fun _ _ _ _ _ _ us hl => match us, hl with | [_], _ => rfl
theorem bi_law : BindE e_law := fun _ _ _ _ _ _ us hl => match us, hl with | [_], _ => rfl
theorem oks : ∀ e ∈ es, entB T e = true := List.forall_mem_cons.mpr ⟨ok_is_whole, List.forall_mem_cons.mpr ⟨ok_is_many, List.forall_mem_cons.mpr ⟨ok_is_lot_by, List.forall_mem_cons.mpr ⟨ok_lots_of, List.forall_mem_cons.mpr ⟨ok_is_within, List.forall_mem_cons.mpr ⟨ok_is_complex_by, List.forall_mem_cons.mpr ⟨ok_check_complex, List.forall_mem_cons.mpr ⟨ok_many_in, List.forall_mem_cons.mpr ⟨ok_tops_in, List.forall_mem_cons.mpr ⟨ok_has_face, List.forall_mem_cons.mpr ⟨ok_faces_by, List.forall_mem_cons.mpr ⟨ok_faces_at, List.forall_mem_cons.mpr ⟨ok_dimension_of, List.forall_mem_cons.mpr ⟨ok_is_face_by, List.forall_mem_cons.mpr ⟨ok_check_face, List.forall_mem_cons.mpr ⟨ok_check_even, List.forall_mem_cons.mpr ⟨ok_sides_by, List.forall_mem_cons.mpr ⟨ok_common, List.forall_mem_cons.mpr ⟨ok_goes_on, List.forall_mem_cons.mpr ⟨ok_is_order_of, List.forall_mem_cons.mpr ⟨ok_is_shell_by, List.forall_mem_cons.mpr ⟨ok_is_shell, List.forall_mem_cons.mpr ⟨ok_check_shelled, List.forall_mem_cons.mpr ⟨ok_check_few_tops, List.forall_mem_cons.mpr ⟨ok_shell_by, List.forall_mem_cons.mpr ⟨ok_shell_or_none, List.forall_mem_cons.mpr ⟨ok_is_shell_or_none, List.forall_mem_cons.mpr ⟨ok_new_by, List.forall_mem_cons.mpr ⟨ok_new_faces, List.forall_mem_cons.mpr ⟨ok_end_tops, List.forall_mem_cons.mpr ⟨ok_link_shell, List.forall_mem_cons.mpr ⟨ok_between, List.forall_mem_cons.mpr ⟨ok_is_parting_by, List.forall_mem_cons.mpr ⟨ok_is_parting, List.forall_mem_cons.mpr ⟨ok_parting_by, List.forall_mem_cons.mpr ⟨ok_find_parting, List.forall_mem_cons.mpr ⟨ok_parting_or_none, List.forall_mem_cons.mpr ⟨ok_is_parting_or_none, List.forall_mem_cons.mpr ⟨ok_choices, List.forall_mem_cons.mpr ⟨ok_is_odd, List.forall_mem_cons.mpr ⟨ok_h_by, List.forall_mem_cons.mpr ⟨ok_h_numbers, List.forall_mem_cons.mpr ⟨ok__law_hash, List.forall_mem_cons.mpr ⟨ok__law_random, List.forall_mem_cons.mpr ⟨ok__law_cell, List.forall_mem_cons.mpr ⟨ok__law_generator, List.forall_mem_cons.mpr ⟨ok__law_drawn_order, List.forall_mem_cons.mpr ⟨ok__law_lots, List.forall_mem_cons.mpr ⟨ok__law_in, List.forall_mem_cons.mpr ⟨ok__law_complex, List.forall_mem_cons.mpr ⟨ok__law_body, List.forall_mem_cons.mpr ⟨ok__law_odd_bodies, List.forall_mem_cons.mpr ⟨ok__law_caught, List.forall_mem_cons.mpr ⟨ok__law_asked, List.forall_mem_cons.mpr ⟨ok_law, fun _ z => nomatch z⟩⟩⟩⟩⟩⟩⟩⟩⟩⟩⟩⟩⟩⟩⟩⟩⟩⟩⟩⟩⟩⟩⟩⟩⟩⟩⟩⟩⟩⟩⟩⟩⟩⟩⟩⟩⟩⟩⟩⟩⟩⟩⟩⟩⟩⟩⟩⟩⟩⟩⟩⟩⟩⟩⟩
theorem bis : ∀ e ∈ es, BindE e := List.forall_mem_cons.mpr ⟨bi_is_whole, List.forall_mem_cons.mpr ⟨bi_is_many, List.forall_mem_cons.mpr ⟨bi_is_lot_by, List.forall_mem_cons.mpr ⟨bi_lots_of, List.forall_mem_cons.mpr ⟨bi_is_within, List.forall_mem_cons.mpr ⟨bi_is_complex_by, List.forall_mem_cons.mpr ⟨bi_check_complex, List.forall_mem_cons.mpr ⟨bi_many_in, List.forall_mem_cons.mpr ⟨bi_tops_in, List.forall_mem_cons.mpr ⟨bi_has_face, List.forall_mem_cons.mpr ⟨bi_faces_by, List.forall_mem_cons.mpr ⟨bi_faces_at, List.forall_mem_cons.mpr ⟨bi_dimension_of, List.forall_mem_cons.mpr ⟨bi_is_face_by, List.forall_mem_cons.mpr ⟨bi_check_face, List.forall_mem_cons.mpr ⟨bi_check_even, List.forall_mem_cons.mpr ⟨bi_sides_by, List.forall_mem_cons.mpr ⟨bi_common, List.forall_mem_cons.mpr ⟨bi_goes_on, List.forall_mem_cons.mpr ⟨bi_is_order_of, List.forall_mem_cons.mpr ⟨bi_is_shell_by, List.forall_mem_cons.mpr ⟨bi_is_shell, List.forall_mem_cons.mpr ⟨bi_check_shelled, List.forall_mem_cons.mpr ⟨bi_check_few_tops, List.forall_mem_cons.mpr ⟨bi_shell_by, List.forall_mem_cons.mpr ⟨bi_shell_or_none, List.forall_mem_cons.mpr ⟨bi_is_shell_or_none, List.forall_mem_cons.mpr ⟨bi_new_by, List.forall_mem_cons.mpr ⟨bi_new_faces, List.forall_mem_cons.mpr ⟨bi_end_tops, List.forall_mem_cons.mpr ⟨bi_link_shell, List.forall_mem_cons.mpr ⟨bi_between, List.forall_mem_cons.mpr ⟨bi_is_parting_by, List.forall_mem_cons.mpr ⟨bi_is_parting, List.forall_mem_cons.mpr ⟨bi_parting_by, List.forall_mem_cons.mpr ⟨bi_find_parting, List.forall_mem_cons.mpr ⟨bi_parting_or_none, List.forall_mem_cons.mpr ⟨bi_is_parting_or_none, List.forall_mem_cons.mpr ⟨bi_choices, List.forall_mem_cons.mpr ⟨bi_is_odd, List.forall_mem_cons.mpr ⟨bi_h_by, List.forall_mem_cons.mpr ⟨bi_h_numbers, List.forall_mem_cons.mpr ⟨bi__law_hash, List.forall_mem_cons.mpr ⟨bi__law_random, List.forall_mem_cons.mpr ⟨bi__law_cell, List.forall_mem_cons.mpr ⟨bi__law_generator, List.forall_mem_cons.mpr ⟨bi__law_drawn_order, List.forall_mem_cons.mpr ⟨bi__law_lots, List.forall_mem_cons.mpr ⟨bi__law_in, List.forall_mem_cons.mpr ⟨bi__law_complex, List.forall_mem_cons.mpr ⟨bi__law_body, List.forall_mem_cons.mpr ⟨bi__law_odd_bodies, List.forall_mem_cons.mpr ⟨bi__law_caught, List.forall_mem_cons.mpr ⟨bi__law_asked, List.forall_mem_cons.mpr ⟨bi_law, fun _ z => nomatch z⟩⟩⟩⟩⟩⟩⟩⟩⟩⟩⟩⟩⟩⟩⟩⟩⟩⟩⟩⟩⟩⟩⟩⟩⟩⟩⟩⟩⟩⟩⟩⟩⟩⟩⟩⟩⟩⟩⟩⟩⟩⟩⟩⟩⟩⟩⟩⟩⟩⟩⟩⟩⟩⟩⟩
theorem kwa : ∀ (i : Nat) (e : Ent) (m : Nat) (ks : List Str) (ix : List Nat), es[i]? = some e → (i, m, ks, ix) ∈ T.kws → BindK e m ks ix := by
  intro i e m ks ix he hk
  have hk : (i, m, ks, ix) ∈ ([] : List (Nat × Nat × List Str × List Nat)) := hk
  cases hk
abbrev P : Program := PySem.Challenge.rw_holestold_k84_shells_refused.prog
theorem given : Given es fl T (conOf nums) (faOf es T.exc nums) P := given_of (by rfl) (by decide +kernel) oks bis kwa (by rfl) (by decide +kernel) (by rfl) (by decide +kernel) (by decide +kernel) fun _ _ _ _ h => h
def nm0 : List Str := [Str.ofString "HoleError", Str.ofString "InvalidComplex", Str.ofString "InvalidFace", Str.ofString "InvalidList", Str.ofString "Unlike", Str.ofString "TooMany", Str.ofString "MOST_POINTS", Str.ofString "MOST_TOPS", Str.ofString "is_whole", Str.ofString "is_many", Str.ofString "is_lot_by", Str.ofString "lots_of", Str.ofString "is_within", Str.ofString "is_complex_by", Str.ofString "check_complex", Str.ofString "many_in", Str.ofString "tops_in", Str.ofString "has_face", Str.ofString "faces_by", Str.ofString "faces_at", Str.ofString "dimension_of", Str.ofString "is_face_by", Str.ofString "check_face", Str.ofString "MOST_SHELLED", Str.ofString "check_even", Str.ofString "sides_by", Str.ofString "common", Str.ofString "goes_on", Str.ofString "is_order_of", Str.ofString "is_shell_by"]
def nm1 : List Str := [Str.ofString "is_shell", Str.ofString "check_shelled", Str.ofString "check_few_tops", Str.ofString "shell_by", Str.ofString "shell_or_none", Str.ofString "is_shell_or_none", Str.ofString "new_by", Str.ofString "new_faces", Str.ofString "end_tops", Str.ofString "link_shell", Str.ofString "between", Str.ofString "is_parting_by", Str.ofString "is_parting", Str.ofString "parting_by", Str.ofString "find_parting", Str.ofString "parting_or_none", Str.ofString "is_parting_or_none", Str.ofString "choices", Str.ofString "is_odd", Str.ofString "h_by", Str.ofString "h_numbers", Str.ofString "_law_hash", Str.ofString "_law_random", Str.ofString "_law_cell", Str.ofString "_law_generator", Str.ofString "_law_drawn_order", Str.ofString "_law_lots", Str.ofString "_law_in", Str.ofString "_law_complex", Str.ofString "_law_body"]
def nm2 : List Str := ["_law_odd_bodies", "_law_caught", "_law_asked"]
def loose : List Str := nm0 ++ nm1 ++ nm2
abbrev rowR : PySem.W.OpenRow := PySem.W.OpenLaw.row PySem.Challenge.rw_holestold_k84_shells_refused
abbrev hk : PySem.W.Hook := hookM 4 (faOf es T.exc nums) (es.map (·.d)) (mkN T) (exM P.main.file T)
def ob (s : PySem.W.SharedT) : He.AlD × Bool := obsM 4 (faOf es T.exc nums) (es.map (·.d)) (mkN T) (exM P.main.file T) (HandSHeadRun.getT s)
theorem ob_eq (s : PySem.W.SharedT) : ob s = hk.obs s.abs := obsM_eq (HandSHeadRun.getT_eq s)
theorem runH (w : World) : HandSHeadRun.RunEq rowR (PySem.W.view rowR.prog [69]) hk ob 20000 loose w := by
  intro os
  kernel_rfl
end L
end MP
open PySem PySem.W PySem.Calls PyProof.Rows
theorem holds_of (law : ∀ ns : List Int, ns.length ≤ 63 → ∃ st, MP.run (fun i => MP.L.fl[i]?) (MP.conOf MP.L.nums) 400 55 20 54 [.scr ns] [] = .ok (.bl true) st) : PySem.Challenge.rw_holestold_k84_shells_refused.Holds := by
  w_on; o_law
  refine HandSHeadRun.head_any (r := OpenLaw.row PySem.Challenge.rw_holestold_k84_shells_refused) (q := view (OpenLaw.row PySem.Challenge.rw_holestold_k84_shells_refused).prog [69]) (H := MP.L.hk) (ob := MP.L.ob) (M := 20000) (loose := MP.L.loose) (d := HandSHeadRun.topDef (OpenLaw.row PySem.Challenge.rw_holestold_k84_shells_refused).prog 69) (kwd := []) MP.L.ob_eq
    (by kernel_rfl) (fun s => by kernel_rfl) MP.L.runH (by kernel_rfl) (by kernel_rfl) (by kernel_rfl) (by rfl) (by first | assumption | decide +kernel) (by decide +kernel) ⟨rfl, rfl, rfl, rfl, rfl, by decide +kernel⟩ ?hw ?hc
  case hw => w_witness2
  case hc => exact MP.walk_g (l := PySem.Challenge.rw_holestold_k84_shells_refused) (m := 63) (n := 20) (k := 4) (wl := 400) (f := 54) (el := MP.L.e_law) rfl (by decide) (by kernel_rfl) ⟨rfl, by decide, by decide⟩ MP.L.given rfl (by kernel_rfl) law
end
section
set_option maxRecDepth 100000
set_option maxHeartbeats 4000000
/-! MPPl: the evaluator's equations, to be rewritten by. -/
namespace MP
open PySem
def R.bl {α : Type} (r : R D) (f : Bool → Store → R α) : R α := r.bind fun x st => match x with
  | .bl k => f k st
  | _ => .bad
@[simp] theorem R.bl_ok {α : Type} {k : Bool} {st : Store} {f : Bool → Store → R α} : (R.ok (.bl k) st).bl f = f k st := (rfl)
@[simp] theorem R.bl_exc {α : Type} {k : Nat} {d : D} {st : Store} {f : Bool → Store → R α} : (R.exc k d st : R D).bl f = .exc k d st := (rfl)
def R.blE (r : R D) (ρ : Sl) (f : Bool → Store → E) : E := r.thn ρ fun x st => match x with
  | .bl k => f k st
  | _ => .bad
@[simp] theorem R.blE_ok {k : Bool} {st : Store} {ρ : Sl} {f : Bool → Store → E} : (R.ok (.bl k) st).blE ρ f = f k st := (rfl)
@[simp] theorem R.blE_exc {k : Nat} {d : D} {st : Store} {ρ : Sl} {f : Bool → Store → E} : (R.exc k d st : R D).blE ρ f = .exc k d ρ st := (rfl)
section
variable {c : Cxt} {ρ : Sl} {st : Store}
theorem e_and {a b : Ex} : ev c (.and a b) ρ st = (ev c a ρ st).bl fun k st => if k then ev c b ρ st else .ok (.bl false) st := by
  rw [ev]
  unfold R.bl
  congr 1
  funext x st
  cases x <;> try rfl
  rename_i k
  cases k <;> rfl
theorem e_or {a b : Ex} : ev c (.or a b) ρ st = (ev c a ρ st).bl fun k st => if k then .ok (.bl true) st else ev c b ρ st := by
  rw [ev]
  unfold R.bl
  congr 1
  funext x st
  cases x <;> try rfl
  rename_i k
  cases k <;> rfl
theorem e_not {a : Ex} : ev c (.not a) ρ st = (ev c a ρ st).bl fun k st => .ok (.bl (!k)) st := by
  rw [ev]
  unfold R.bl
  congr 1
theorem e_ife {t a b : Ex} : ev c (.ife t a b) ρ st = (ev c t ρ st).bl fun k st => if k then ev c a ρ st else ev c b ρ st := by
  rw [ev]
  unfold R.bl
  congr 1
  funext x st
  cases x <;> try rfl
  rename_i k
  cases k <;> rfl
theorem s_ife {t : Ex} {a b : Sms} : ex c (.ife t a b) ρ st = (ev c t ρ st).blE ρ fun k st => if k then exs c a ρ st else exs c b ρ st := by
  rw [ex]
  unfold R.blE
  congr 1
  funext x st
  cases x <;> try rfl
  rename_i k
  cases k <;> rfl
/-- a statement, then the others -/
def E.thn (r : E) (f : Sl → Store → E) : E := match r with
  | .nx ρ st => f ρ st
  | r => r
@[simp] theorem E.thn_nx {ρ : Sl} {st : Store} {f : Sl → Store → E} : (E.nx ρ st).thn f = f ρ st := (rfl)
@[simp] theorem E.thn_rt {d : D} {st : Store} {f : Sl → Store → E} : (E.rt d st).thn f = .rt d st := (rfl)
@[simp] theorem E.thn_bk {ρ : Sl} {st : Store} {f : Sl → Store → E} : (E.bk ρ st).thn f = .bk ρ st := (rfl)
@[simp] theorem E.thn_ct {ρ : Sl} {st : Store} {f : Sl → Store → E} : (E.ct ρ st).thn f = .ct ρ st := (rfl)
@[simp] theorem E.thn_exc {k : Nat} {d : D} {ρ : Sl} {st : Store} {f : Sl → Store → E} : (E.exc k d ρ st).thn f = .exc k d ρ st := (rfl)
theorem ss_nil : exs c .nil ρ st = .nx ρ st := by rw [exs]
theorem ss_cons {s : Sm} {ss : Sms} : exs c (.cons s ss) ρ st = (ex c s ρ st).thn fun ρ st => exs c ss ρ st := by
  rw [exs]
  unfold E.thn
  cases ex c s ρ st <;> rfl
end
section
variable {c : Cxt} {ρ : Sl} {st : Store}
theorem e_nm {i : Nat} {d : D} (h : ρ[i]? = some (some d)) : ev c (.nm i) ρ st = .ok d st := by rw [ev, h]
theorem e_kn {d : D} : ev c (.kn d) ρ st = .ok d st := by rw [ev]
theorem e_con {g : Nat} : ev c (.con g) ρ st = ofO (c.con g) st := by rw [ev]
theorem e_bin {op : Bo} {a b : Ex} : ev c (.bin op a b) ρ st = (ev c a ρ st).bind fun x st => (ev c b ρ st).bind fun y st => ofO (binD st op x y) st := by rw [ev]
theorem e_cmp {op : Co} {a b : Ex} : ev c (.cmp op a b) ρ st = (ev c a ρ st).bind fun x st => (ev c b ρ st).bind fun y st => ofO ((cmpD st op x y).map .bl) st := by rw [ev]
/-- a chain, behind its first two -/
def chnR (o : Option Bool) (st : Store) (r : R D) : R D := match o with
  | some true => r
  | some false => .ok (.bl false) st
  | none => .bad
@[simp] theorem chnR_some {k : Bool} {r : R D} : chnR (some k) st r = if k then r else .ok (.bl false) st := by cases k <;> rfl
theorem e_chn {o p : Co} {a b d : Ex} : ev c (.chn o p a b d) ρ st = (ev c a ρ st).bind fun x st => (ev c b ρ st).bind fun y st => chnR (cmpD st o x y) st ((ev c d ρ st).bind fun z st => ofO ((cmpD st p y z).map .bl) st) := by
  (rw [ev]) <;> rfl
theorem e_lst {es : Exs} : ev c (.lst es) ρ st = (evs c es ρ st).bind fun ds st => if ds.length ≤ line then .ok (.lst ds) st else .bad := by rw [ev]
theorem e_tup {es : Exs} : ev c (.tup es) ρ st = (evs c es ρ st).bind fun ds st => if ds.length ≤ line then .ok (.tup ds) st else .bad := by rw [ev]
theorem e_sub {a b : Ex} : ev c (.sub a b) ρ st = (ev c a ρ st).bind fun x st => (ev c b ρ st).bind fun y st => ofO (subD st x y) st := by rw [ev]
theorem e_slc {a : Ex} {lo hi : Ox} : ev c (.slc a lo hi) ρ st = (ev c a ρ st).bind fun x st => (evo c lo ρ st).bind fun l st => (evo c hi ρ st).bind fun h st => ofO (slcD st x l h) st := by rw [ev]
theorem e_rev {a : Ex} : ev c (.rev a) ρ st = (ev c a ρ st).bind fun x st => ofO ((items st x).map fun xs => .lst xs.reverse) st := by rw [ev]
theorem e_rvb {a : Ex} {n : Nat} : ev c (.rvb a n) ρ st = (ev c a ρ st).bind fun x st => ofO ((items st x).map fun xs => .lst (xs.drop (n + 1)).reverse) st := by rw [ev]
theorem e_cal {f : Nat} {es : Exs} : ev c (.cal f es) ρ st = (evs c es ρ st).bind fun ds st => c.cal f ds st := by rw [ev]
theorem e_fn {f : Nat} : ev c (.fn f) ρ st = .ok (.fn f) st := by rw [ev]
/-- a pure call -/
def purR (r : R D) (st : Store) : R D := match r with
  | .ok d _ => if freeD d then .ok d st else .bad
  | .exc k d _ => if freeD d then .exc k d st else .bad
  | .bad => .bad
@[simp] theorem purR_ok {d : D} {st' : Store} (h : freeD d = true) : purR (.ok d st') st = .ok d st := if_pos h
@[simp] theorem purR_exc {k : Nat} {d : D} {st' : Store} (h : freeD d = true) : purR (.exc k d st') st = .exc k d st := if_pos h
theorem e_pur {f : Nat} {es : Exs} : ev c (.pur f es) ρ st = (evs c es ρ st).bind fun ds st => if freeDs ds then purR (c.cal f ds []) st else .bad := by
  (rw [ev]) <;> rfl
theorem e_blt {b : Bf} {es : Exs} : ev c (.blt b es) ρ st = (evs c es ρ st).bind fun ds st => ofO (bltD st b ds) st := by rw [ev]
theorem a_nil : evs c .nil ρ st = .ok [] st := by rw [evs]
theorem a_cons {e : Ex} {es : Exs} : evs c (.cons e es) ρ st = (ev c e ρ st).bind fun x st => (evs c es ρ st).bind fun xs st => .ok (x :: xs) st := by rw [evs]
theorem o_non : evo c .non ρ st = .ok none st := by rw [evo]
/-- a whole number -/
def intR (x : D) (st : Store) : R (Option Int) := match x with
  | .int i => .ok (some i) st
  | _ => .bad
@[simp] theorem intR_int {i : Int} : intR (.int i) st = .ok (some i) st := (rfl)
theorem o_som {e : Ex} : evo c (.som e) ρ st = (ev c e ρ st).bind fun x st => intR x st := by
  (rw [evo]) <;> rfl
theorem s_set {i : Nat} {e : Ex} : ex c (.set i e) ρ st = (ev c e ρ st).thn ρ fun d st => ofS (set1 i d ρ) st := by rw [ex]
theorem s_exp {e : Ex} : ex c (.exp e) ρ st = (ev c e ρ st).thn ρ fun _ st => .nx ρ st := by rw [ex]
theorem s_ret {e : Ex} : ex c (.ret e) ρ st = (ev c e ρ st).thn ρ fun d st => .rt d st := by rw [ex]
theorem s_rai {k : Nat} {e : Ex} : ex c (.rai k e) ρ st = (ev c e ρ st).thn ρ fun d st => .exc k d ρ st := by rw [ex]
end
/-! ### comprehensions -/
/-- an element of a comprehension -/
def elt (c : Cxt) (x : Ex) (tg : List Nat) (tp : Bool) (i : Ox) (ρ : Sl) (d : D) (st : Store) : R (Option D) := match asgT tg tp d ρ with
  | none => .bad
  | some ρ1 => (evt c i ρ1 st).bind fun b st => if b then (ev c x ρ1 st).bind fun y st => .ok (some y) st else .ok none st
theorem e_lc {c : Cxt} {ρ : Sl} {st : Store} {x : Ex} {tg : List Nat} {tp : Bool} {s : Sr} {i : Ox} {own : List Nat} : ev c (.lc x tg tp s i own) ρ st = (evw c s ρ st).bind fun w st => (noExc (lcGo w (elt c x tg tp i (wipe ρ own)) w.its [] st)).bind fun ys st => .ok (.lst ys) st := by
  (rw [ev]) <;> rfl
theorem lcGo_pure {w : Walk} {f : D → Store → R (Option D)} {g : D → Option D} {st : Store} (hw : still w st = true) : ∀ (ds acc : List D), (∀ d ∈ ds, f d st = .ok (g d) st) → acc.length + ds.length ≤ line → lcGo w f ds acc st = .ok (acc ++ ds.filterMap g) st
  | [], acc, _, _ => by
    unfold lcGo
    rw [if_pos hw]
    simp
  | d :: ds, acc, h, hl => by
    unfold lcGo
    rw [if_pos hw, h d List.mem_cons_self]
    have hl : acc.length + (ds.length + 1) ≤ line := hl
    have h' : ∀ e ∈ ds, f e st = .ok (g e) st := fun e he => h e (List.mem_cons_of_mem _ he)
    cases hg : g d with
    | none =>
      rw [R.bind_ok]
      show lcGo w f ds acc st = _
      rw [lcGo_pure hw ds acc h' (by omega), List.filterMap_cons_none hg]
    | some y =>
      rw [R.bind_ok]
      show (if acc.length < line then lcGo w f ds (acc ++ [y]) st else .bad) = _
      rw [if_pos (by omega), lcGo_pure hw ds (acc ++ [y]) h' (by rw [List.length_append]; simp only [List.length_cons, List.length_nil]; omega), List.filterMap_cons_some hg, List.append_assoc]
      rfl
theorem e_lcP {c : Cxt} {ρ : Sl} {st : Store} {x : Ex} {tg : List Nat} {tp : Bool} {s : Sr} {i : Ox} {own : List Nat} {w : Walk} {g : D → Option D} (h : evw c s ρ st = .ok w st) (hw : still w st = true) (hl : w.its.length ≤ line) (hd : ∀ d ∈ w.its, elt c x tg tp i (wipe ρ own) d st = .ok (g d) st) :
    ev c (.lc x tg tp s i own) ρ st = .ok (.lst (w.its.filterMap g)) st := by
  rw [e_lc, h, R.bind_ok, lcGo_pure hw w.its [] hd (by simpa using hl)]
  rfl
/-! ### loops -/
def E.turn (r : E) (k : Sl → Store → E) : E := match r with
  | .nx ρ st => k ρ st
  | .ct ρ st => k ρ st
  | .bk ρ st => .nx ρ st
  | r => r
@[simp] theorem E.turn_nx {ρ : Sl} {st : Store} {k : Sl → Store → E} : (E.nx ρ st).turn k = k ρ st := (rfl)
@[simp] theorem E.turn_ct {ρ : Sl} {st : Store} {k : Sl → Store → E} : (E.ct ρ st).turn k = k ρ st := (rfl)
@[simp] theorem E.turn_bk {ρ : Sl} {st : Store} {k : Sl → Store → E} : (E.bk ρ st).turn k = .nx ρ st := (rfl)
@[simp] theorem E.turn_rt {d : D} {st : Store} {k : Sl → Store → E} : (E.rt d st).turn k = .rt d st := (rfl)
@[simp] theorem E.turn_exc {i : Nat} {d : D} {ρ : Sl} {st : Store} {k : Sl → Store → E} : (E.exc i d ρ st).turn k = .exc i d ρ st := (rfl)
theorem for_nil {w : Walk} {f : D → Sl → Store → E} {ρ : Sl} {st : Store} (h : still w st = true) : forGo w f [] ρ st = .nx ρ st := by
  unfold forGo
  rw [if_pos h]
theorem for_cons {w : Walk} {f : D → Sl → Store → E} {d : D} {ds : List D} {ρ : Sl} {st : Store} (h : still w st = true) : forGo w f (d :: ds) ρ st = (f d ρ st).turn fun ρ st => forGo w f ds ρ st := by
  rw [forGo, if_pos h]
  unfold E.turn
  cases f d ρ st <;> rfl
/-- one turn of a for -/
def forT (c : Cxt) (tg : List Nat) (tp : Bool) (b : Sms) (d : D) (ρ : Sl) (st : Store) : E := match asgT tg tp d ρ with
  | some ρ => exs c b ρ st
  | none => .bad
theorem s_for {c : Cxt} {ρ : Sl} {st : Store} {tg : List Nat} {tp : Bool} {s : Sr} {b : Sms} : ex c (.for_ tg tp s b) ρ st = (evw c s ρ st).thn ρ fun w st => forGo w (forT c tg tp b) w.its ρ st := by
  (rw [ex]) <;> rfl
/-- a loop with an invariant: all turns go through -/
theorem for_inv {w : Walk} {f : D → Sl → Store → E} (I : List D → Sl → Store → Prop) (hs : ∀ ds ρ st, I ds ρ st → still w st = true) (hstep : ∀ d ds ρ st, I (d :: ds) ρ st → ∃ ρ' st', (f d ρ st = .nx ρ' st' ∨ f d ρ st = .ct ρ' st') ∧ I ds ρ' st') :
    ∀ ds ρ st, I ds ρ st → ∃ ρ' st', forGo w f ds ρ st = .nx ρ' st' ∧ I [] ρ' st'
  | [], ρ, st, h => ⟨ρ, st, for_nil (hs _ _ _ h), h⟩
  | d :: ds, ρ, st, h => by
    obtain ⟨ρ', st', e, h'⟩ := hstep d ds ρ st h
    obtain ⟨ρ2, st2, e2, h2⟩ := for_inv I hs hstep ds ρ' st' h'
    refine ⟨ρ2, st2, ?_, h2⟩
    rw [for_cons (hs _ _ _ h)]
    rcases e with e | e <;> rw [e] <;> exact e2
/-! ### built-ins, operators -/
def allB (bs : List Bool) : Bool := bs.all id
def anyB (bs : List Bool) : Bool := bs.any id
@[simp] theorem allB_nil : allB [] = true := (rfl)
@[simp] theorem anyB_nil : anyB [] = false := (rfl)
theorem allB_map {α : Type} {f : α → Bool} {xs : List α} : allB (xs.map f) = xs.all f := by
  unfold allB
  rw [List.all_map]
  rfl
theorem anyB_map {α : Type} {f : α → Bool} {xs : List α} : anyB (xs.map f) = xs.any f := by
  unfold anyB
  rw [List.any_map]
  rfl

@[simp] theorem chnR_ok {k j : Bool} {st : Store} : chnR (some k) st (.ok (.bl j) st) = .ok (.bl (k && j)) st := by cases k <;> rfl
section
variable {st : Store} {a b d : D} {ds : List D}
@[simp] theorem bl_len : bltD st .len [a] = (lenD st a).map fun (n : Nat) => .int (n : Int) := (rfl)
@[simp] theorem bl_any : bltD st .any [a] = ((items st a).bind blsD).map fun bs => .bl (anyB bs) := (rfl)
@[simp] theorem bl_all : bltD st .all [a] = ((items st a).bind blsD).map fun bs => .bl (allB bs) := (rfl)
@[simp] theorem bl_isi {t : Ty} : bltD st (.isi t) [a] = (isiD st t a).map .bl := (rfl)
@[simp] theorem bl_isis {ts : List Ty} : bltD st (.isis ts) [a] = (tysIs st ts a).map .bl := (rfl)
@[simp] theorem bl_repr : bltD st .repr [a] = (reprD st a).map .str := (rfl)
@[simp] theorem bl_sorted : bltD st .sorted [a] = sortD st a := (rfl)
@[simp] theorem bl_listL : bltD st .list [.lst ds] = some (.lst ds) := (rfl)
@[simp] theorem bl_listT : bltD st .list [.tup ds] = some (.lst ds) := (rfl)
@[simp] theorem bl_int {i : Int} : bltD st .int [.int i] = some (.int i) := (rfl)
@[simp] theorem bl_intS {z : Str} : bltD st .int [.str z] = if z.length ≤ 640 then (intText? z).map .int else none := (rfl)
@[simp] theorem bl_strI {i : Int} : bltD st .str [.int i] = if i.natAbs.log2 < 1920 then some (.str (toString i)) else none := (rfl)
@[simp] theorem len_lst : lenD st (.lst ds) = some ds.length := (rfl)
@[simp] theorem len_tup : lenD st (.tup ds) = some ds.length := (rfl)
theorem len_str {z : Str} (h : z.length ≤ line) : lenD st (.str z) = some z.length := if_pos h
@[simp] theorem it_lst : items st (.lst ds) = some ds := (rfl)
@[simp] theorem c_ltI {i j : Int} : cmpD st .lt (.int i) (.int j) = some (decide (i < j)) := (rfl)
@[simp] theorem c_leI {i j : Int} : cmpD st .le (.int i) (.int j) = some (decide (i ≤ j)) := (rfl)
@[simp] theorem c_gtI {i j : Int} : cmpD st .gt (.int i) (.int j) = some (decide (j < i)) := (rfl)
@[simp] theorem c_geI {i j : Int} : cmpD st .ge (.int i) (.int j) = some (decide (j ≤ i)) := (rfl)
@[simp] theorem c_is : cmpD st .is_ a b = isD a b := (rfl)
@[simp] theorem c_isn : cmpD st .isn a b = (isD a b).map (!·) := (rfl)
@[simp] theorem c_eq : cmpD st .eq a b = eqD st a b := (rfl)
@[simp] theorem c_ne : cmpD st .ne a b = (eqD st a b).map (!·) := (rfl)
@[simp] theorem c_in : cmpD st .isin a b = inD st a b := (rfl)
@[simp] theorem c_nin : cmpD st .nin a b = (inD st a b).map (!·) := (rfl)
@[simp] theorem is_non : isD a .non = some (nonB a) := (rfl)
@[simp] theorem is_bl {k : Bool} : isD a (.bl k) = some (blB k a) := (rfl)
end
end MP
end
section
set_option maxRecDepth 100000
set_option maxHeartbeats 4000000
/-! MPSx: the evaluator by simp alone. -/
namespace MP
open PySem
/-! ### ifs pushed out -/
section
variable {p : Prop} [Decidable p]
@[simp] theorem bind_ite {α β : Type} {a b : R α} {f : α → Store → R β} : (if p then a else b).bind f = if p then a.bind f else b.bind f := by split <;> rfl
@[simp] theorem bl_ite {α : Type} {a b : R D} {f : Bool → Store → R α} : (if p then a else b).bl f = if p then a.bl f else b.bl f := by split <;> rfl
@[simp] theorem thn_ite {α : Type} {a b : R α} {ρ : Sl} {f : α → Store → E} : (if p then a else b).thn ρ f = if p then a.thn ρ f else b.thn ρ f := by split <;> rfl
@[simp] theorem blE_ite {a b : R D} {ρ : Sl} {f : Bool → Store → E} : (if p then a else b).blE ρ f = if p then a.blE ρ f else b.blE ρ f := by split <;> rfl
@[simp] theorem Ethn_ite {a b : E} {f : Sl → Store → E} : (if p then a else b).thn f = if p then a.thn f else b.thn f := by split <;> rfl
@[simp] theorem Eturn_ite {a b : E} {f : Sl → Store → E} : (if p then a else b).turn f = if p then a.turn f else b.turn f := by split <;> rfl
@[simp] theorem ofO_ite {α : Type} {a b : Option α} {st : Store} : ofO (if p then a else b) st = if p then ofO a st else ofO b st := by split <;> rfl
@[simp] theorem Omap_ite {α β : Type} {a b : Option α} {f : α → β} : (if p then a else b).map f = if p then a.map f else b.map f := by split <;> rfl
@[simp] theorem Obind_ite {α β : Type} {a b : Option α} {f : α → Option β} : (if p then a else b).bind f = if p then a.bind f else b.bind f := by split <;> rfl
@[simp] theorem R_and {q : Bool} {st : Store} : (if p then (R.ok (.bl q) st : R D) else .ok (.bl false) st) = .ok (.bl (decide p && q)) st := by split <;> simp [*]
@[simp] theorem R_or {q : Bool} {st : Store} : (if p then (R.ok (.bl true) st : R D) else .ok (.bl q) st) = .ok (.bl (decide p || q)) st := by split <;> simp [*]
@[simp] theorem R_andB {q : Bool} {st : Store} : (if p then (R.ok q st : R Bool) else .ok false st) = .ok (decide p && q) st := by split <;> simp [*]
end
/-! ### names -/
def nmR (o : Option (Option D)) (st : Store) : R D := match o with
  | some (some d) => .ok d st
  | _ => .bad
@[simp] theorem nmR_some {d : D} {st : Store} : nmR (some (some d)) st = .ok d st := (rfl)
section
variable {c : Cxt} {ρ : Sl} {st : Store}
@[simp] theorem x_nm {i : Nat} : ev c (.nm i) ρ st = nmR ρ[i]? st := by (rw [ev]) <;> rfl
@[simp] theorem x_kn {d : D} : ev c (.kn d) ρ st = .ok d st := e_kn
@[simp] theorem x_con {g : Nat} : ev c (.con g) ρ st = ofO (c.con g) st := e_con
@[simp] theorem x_bin {op : Bo} {a b : Ex} : ev c (.bin op a b) ρ st = (ev c a ρ st).bind fun x st => (ev c b ρ st).bind fun y st => ofO (binD st op x y) st := e_bin
@[simp] theorem x_cmp {op : Co} {a b : Ex} : ev c (.cmp op a b) ρ st = (ev c a ρ st).bind fun x st => (ev c b ρ st).bind fun y st => ofO ((cmpD st op x y).map .bl) st := e_cmp
@[simp] theorem x_chn {o p : Co} {a b d : Ex} : ev c (.chn o p a b d) ρ st = (ev c a ρ st).bind fun x st => (ev c b ρ st).bind fun y st => chnR (cmpD st o x y) st ((ev c d ρ st).bind fun z st => ofO ((cmpD st p y z).map .bl) st) := e_chn
@[simp] theorem x_and {a b : Ex} : ev c (.and a b) ρ st = (ev c a ρ st).bl fun k st => if k then ev c b ρ st else .ok (.bl false) st := e_and
@[simp] theorem x_or {a b : Ex} : ev c (.or a b) ρ st = (ev c a ρ st).bl fun k st => if k then .ok (.bl true) st else ev c b ρ st := e_or
@[simp] theorem x_not {a : Ex} : ev c (.not a) ρ st = (ev c a ρ st).bl fun k st => .ok (.bl (!k)) st := e_not
@[simp] theorem x_ife {t a b : Ex} : ev c (.ife t a b) ρ st = (ev c t ρ st).bl fun k st => if k then ev c a ρ st else ev c b ρ st := e_ife
@[simp] theorem x_lst {es : Exs} : ev c (.lst es) ρ st = (evs c es ρ st).bind fun ds st => if ds.length ≤ line then .ok (.lst ds) st else .bad := e_lst
@[simp] theorem x_tup {es : Exs} : ev c (.tup es) ρ st = (evs c es ρ st).bind fun ds st => if ds.length ≤ line then .ok (.tup ds) st else .bad := e_tup
@[simp] theorem x_dic0 : ev c .dic0 ρ st = .ok (.dic []) st := by rw [ev]
@[simp] theorem x_sub {a b : Ex} : ev c (.sub a b) ρ st = (ev c a ρ st).bind fun x st => (ev c b ρ st).bind fun y st => ofO (subD st x y) st := e_sub
@[simp] theorem x_slc {a : Ex} {lo hi : Ox} : ev c (.slc a lo hi) ρ st = (ev c a ρ st).bind fun x st => (evo c lo ρ st).bind fun l st => (evo c hi ρ st).bind fun h st => ofO (slcD st x l h) st := e_slc
@[simp] theorem x_rev {a : Ex} : ev c (.rev a) ρ st = (ev c a ρ st).bind fun x st => ofO ((items st x).map fun xs => .lst xs.reverse) st := e_rev
@[simp] theorem x_rvb {a : Ex} {n : Nat} : ev c (.rvb a n) ρ st = (ev c a ρ st).bind fun x st => ofO ((items st x).map fun xs => .lst (xs.drop (n + 1)).reverse) st := e_rvb
@[simp] theorem x_cal {f : Nat} {es : Exs} : ev c (.cal f es) ρ st = (evs c es ρ st).bind fun ds st => c.cal f ds st := e_cal
@[simp] theorem x_fn {f : Nat} : ev c (.fn f) ρ st = .ok (.fn f) st := e_fn
@[simp] theorem x_pur {f : Nat} {es : Exs} : ev c (.pur f es) ρ st = (evs c es ρ st).bind fun ds st => if freeDs ds then purR (c.cal f ds []) st else .bad := e_pur
@[simp] theorem x_blt {b : Bf} {es : Exs} : ev c (.blt b es) ρ st = (evs c es ρ st).bind fun ds st => ofO (bltD st b ds) st := e_blt
@[simp] theorem y_nil : evs c .nil ρ st = .ok [] st := a_nil
@[simp] theorem y_cons {e : Ex} {es : Exs} : evs c (.cons e es) ρ st = (ev c e ρ st).bind fun x st => (evs c es ρ st).bind fun xs st => .ok (x :: xs) st := a_cons
@[simp] theorem z_non : evo c .non ρ st = .ok none st := o_non
@[simp] theorem z_som {e : Ex} : evo c (.som e) ρ st = (ev c e ρ st).bind fun x st => intR x st := o_som
def negR (x : D) (st : Store) : R D := match x with
  | .int i => .ok (.int (-i)) st
  | _ => .bad
@[simp] theorem negR_int {i : Int} : negR (.int i) st = .ok (.int (-i)) st := (rfl)
@[simp] theorem x_neg {a : Ex} : ev c (.neg a) ρ st = (ev c a ρ st).bind fun x st => negR x st := by (rw [ev]) <;> rfl
def cavR (c : Cxt) (o : Option (Option D)) (r : R (List D)) : R D := match o with
  | some (some (.fn f)) => if f < c.nf then r.bind fun ds st => c.cal f ds st else .bad
  | _ => .bad
@[simp] theorem cavR_fn {f : Nat} {r : R (List D)} : cavR c (some (some (.fn f))) r = if f < c.nf then r.bind fun ds st => c.cal f ds st else .bad := (rfl)
@[simp] theorem x_cav {i : Nat} {es : Exs} : ev c (.cav i es) ρ st = cavR c ρ[i]? (evs c es ρ st) := by (rw [ev]) <;> rfl
def cakR (c : Cxt) (f : Nat) (o : Option (List D)) (st : Store) : R D := match o with
  | some rs => c.cal f rs st
  | none => .bad
@[simp] theorem cakR_some {f : Nat} {rs : List D} : cakR c f (some rs) st = c.cal f rs st := (rfl)
@[simp] theorem x_cak {f : Nat} {es ks : Exs} {ix : List Nat} : ev c (.cak f es ks ix) ρ st = (evs c es ρ st).bind fun ds st => (evs c ks ρ st).bind fun es st => cakR c f (pick ix (ds ++ es)) st := by (rw [ev]) <;> rfl
def valR (x : D) (st : Store) : R D := match x with
  | .exv _ d => .ok d st
  | _ => .bad
@[simp] theorem valR_exv {k : Nat} {d : D} : valR (.exv k d) st = .ok d st := (rfl)
@[simp] theorem x_val {e : Ex} : ev c (.val e) ρ st = (ev c e ρ st).bind fun x st => valR x st := by (rw [ev]) <;> rfl
def metR (o : Option (D × Store)) : R D := match o with
  | some p => .ok p.1 p.2
  | none => .bad
@[simp] theorem metR_some {p : D × Store} : metR (some p) = .ok p.1 p.2 := (rfl)
@[simp] theorem metR_ite {p : Prop} [Decidable p] {a b : Option (D × Store)} : metR (if p then a else b) = if p then metR a else metR b := by split <;> rfl
@[simp] theorem metR_none : metR none = .bad := (rfl)
@[simp] theorem x_met {m : Mt} {a : Ex} {es : Exs} : ev c (.met m a es) ρ st = (ev c a ρ st).bind fun x st => if metTy st m x then (evs c es ρ st).bind fun ds st => metR (metD st m x ds) else .bad := by
  rw [ev]
  congr 1
  funext x st
  split
  · congr 1
    funext ds st
    cases metD st m x ds <;> rfl
  · rfl
def mkR (x : D) (st : Store) : R D := match x with
  | .lst ds => .ok (.cel st.length) (st ++ [.lst ds])
  | .dic [] => .ok (.cel st.length) (st ++ [.dic []])
  | _ => .bad
@[simp] theorem mkR_dic : mkR (.dic []) st = .ok (.cel st.length) (st ++ [.dic []]) := (rfl)
@[simp] theorem mkR_lst {ds : List D} : mkR (.lst ds) st = .ok (.cel st.length) (st ++ [.lst ds]) := (rfl)
@[simp] theorem x_mk {e : Ex} : ev c (.mk e) ρ st = (ev c e ρ st).bind fun x st => mkR x st := by (rw [ev]) <;> rfl
def frzC (k : Nat) (o : Option Cell) (st : Store) : R D := match o with
  | some (.lst ds) => .ok (.lst ds) (st.set k .gone)
  | _ => .bad
@[simp] theorem frzC_lst {k : Nat} {ds : List D} : frzC k (some (.lst ds)) st = .ok (.lst ds) (st.set k .gone) := (rfl)
def frzR (x : D) (st : Store) : R D := match x with
  | .cel k => frzC k st[k]? st
  | _ => .bad
@[simp] theorem frzR_cel {k : Nat} : frzR (.cel k) st = frzC k st[k]? st := (rfl)
@[simp] theorem x_frz {e : Ex} : ev c (.frz e) ρ st = (ev c e ρ st).bind fun x st => frzR x st := by
  rw [ev]
  congr 1
/-! ### statements -/
@[simp] theorem t_nil : exs c .nil ρ st = .nx ρ st := ss_nil
@[simp] theorem t_cons {s : Sm} {ss : Sms} : exs c (.cons s ss) ρ st = (ex c s ρ st).thn fun ρ st => exs c ss ρ st := ss_cons
@[simp] theorem t_set {i : Nat} {e : Ex} : ex c (.set i e) ρ st = (ev c e ρ st).thn ρ fun d st => ofS (set1 i d ρ) st := s_set
@[simp] theorem t_exp {e : Ex} : ex c (.exp e) ρ st = (ev c e ρ st).thn ρ fun _ st => .nx ρ st := s_exp
@[simp] theorem t_ret {e : Ex} : ex c (.ret e) ρ st = (ev c e ρ st).thn ρ fun d st => .rt d st := s_ret
@[simp] theorem t_rai {k : Nat} {e : Ex} : ex c (.rai k e) ρ st = (ev c e ρ st).thn ρ fun d st => .exc k d ρ st := s_rai
@[simp] theorem t_ife {t : Ex} {a b : Sms} : ex c (.ife t a b) ρ st = (ev c t ρ st).blE ρ fun k st => if k then exs c a ρ st else exs c b ρ st := s_ife
@[simp] theorem t_for {tg : List Nat} {tp : Bool} {s : Sr} {b : Sms} : ex c (.for_ tg tp s b) ρ st = (evw c s ρ st).thn ρ fun w st => forGo w (forT c tg tp b) w.its ρ st := s_for
@[simp] theorem t_par {is : List Nat} {es : Exs} : ex c (.par is es) ρ st = (evs c es ρ st).thn ρ fun ds st => ofS (asg1 is ds ρ) st := by rw [ex]
@[simp] theorem t_unp {is : List Nat} {e : Ex} : ex c (.unp is e) ρ st = (ev c e ρ st).thn ρ fun d st => ofS (asgT is true d ρ) st := by rw [ex]
@[simp] theorem t_brk : ex c .brk ρ st = .bk ρ st := by rw [ex]
@[simp] theorem t_cnt : ex c .cnt ρ st = .ct ρ st := by rw [ex]
@[simp] theorem t_pas : ex c .pas ρ st = .nx ρ st := by rw [ex]
def stO (o : Option Store) (ρ : Sl) : E := match o with
  | some st => .nx ρ st
  | none => .bad
@[simp] theorem stO_some : stO (some st) ρ = .nx ρ st := (rfl)
@[simp] theorem t_sti {a i e : Ex} : ex c (.sti a i e) ρ st = (ev c e ρ st).thn ρ fun d st => (ev c a ρ st).thn ρ fun x st => (ev c i ρ st).thn ρ fun y st => stO (stiD st x y d) ρ := by (rw [ex]) <;> rfl
def augI (op : Bo) (i : Nat) (a : Int) (y : D) (ρ : Sl) (st : Store) : E := match y with
  | .int b => (match binI op a b with
    | some z => ofS (set1 i z ρ) st
    | none => .bad)
  | _ => .bad
def binE (o : Option D) (i : Nat) (ρ : Sl) (st : Store) : E := match o with
  | some z => ofS (set1 i z ρ) st
  | none => .bad
@[simp] theorem binE_some {z : D} {i : Nat} : binE (some z) i ρ st = ofS (set1 i z ρ) st := (rfl)
@[simp] theorem augI_int {op : Bo} {i : Nat} {a b : Int} : augI op i a (.int b) ρ st = binE (binI op a b) i ρ st := by
  unfold augI binE
  rfl
def augR (op : Bo) (i : Nat) (o : Option (Option D)) (r : R D) (ρ : Sl) : E := match o with
  | some (some (.int a)) => r.thn ρ fun y st => augI op i a y ρ st
  | _ => .bad
@[simp] theorem augR_int {op : Bo} {i : Nat} {a : Int} {r : R D} : augR op i (some (some (.int a))) r ρ = r.thn ρ fun y st => augI op i a y ρ st := (rfl)
@[simp] theorem t_aug {i : Nat} {op : Bo} {e : Ex} : ex c (.aug i op e) ρ st = augR op i ρ[i]? (ev c e ρ st) ρ := by (rw [ex]) <;> rfl
def agiZ (a i : D) (o : Option D) (ρ : Sl) (st : Store) : E := match o with
  | some z => stO (stiD st a i z) ρ
  | none => .bad
@[simp] theorem agiZ_some {a i z : D} : agiZ a i (some z) ρ st = stO (stiD st a i z) ρ := (rfl)
def agiQ (op : Bo) (a i : D) (p : Int) (q : D) (ρ : Sl) (st : Store) : E := match q with
  | .int q => agiZ a i (binI op p q) ρ st
  | _ => .bad
@[simp] theorem agiQ_int {op : Bo} {a i : D} {p q : Int} : agiQ op a i p (.int q) ρ st = agiZ a i (binI op p q) ρ st := (rfl)
def agiP (c : Cxt) (op : Bo) (e : Ex) (a i : D) (o : Option D) (ρ : Sl) (st : Store) : E := match o with
  | some (.int p) => (ev c e ρ st).thn ρ fun q st => agiQ op a i p q ρ st
  | _ => .bad
@[simp] theorem agiP_int {op : Bo} {e : Ex} {a i : D} {p : Int} : agiP c op e a i (some (.int p)) ρ st = (ev c e ρ st).thn ρ fun q st => agiQ op a i p q ρ st := (rfl)
@[simp] theorem t_agi {a i : Ex} {op : Bo} {e : Ex} : ex c (.agi a i op e) ρ st = (ev c a ρ st).thn ρ fun x st => (ev c i ρ st).thn ρ fun y st => agiP c op e x y (getD st x y) ρ st := by (rw [ex]) <;> rfl
def triR (cs no : List Nat) (h : Hn) (i : Nat) (r : E) : E := match r with
  | .exc k d ρ st => if cs.contains k then hnd h i k d ρ st else if no.contains k then .exc k d ρ st else .bad
  | r => r
@[simp] theorem triR_exc {cs no : List Nat} {h : Hn} {i k : Nat} {d : D} : triR cs no h i (.exc k d ρ st) = if cs.contains k then hnd h i k d ρ st else if no.contains k then .exc k d ρ st else .bad := (rfl)
@[simp] theorem triR_nx {cs no : List Nat} {h : Hn} {i : Nat} : triR cs no h i (.nx ρ st) = .nx ρ st := (rfl)
@[simp] theorem triR_rt {cs no : List Nat} {h : Hn} {i : Nat} {d : D} : triR cs no h i (.rt d st) = .rt d st := (rfl)
@[simp] theorem triR_ite {cs no : List Nat} {h : Hn} {i : Nat} {p : Prop} [Decidable p] {a b : E} : triR cs no h i (if p then a else b) = if p then triR cs no h i a else triR cs no h i b := by split <;> rfl
@[simp] theorem t_tri {b : Sms} {cs no : List Nat} {i : Nat} {h : Hn} : ex c (.tri b cs no i h) ρ st = triR cs no h i (exs c b ρ st) := by (rw [ex]) <;> rfl
@[simp] theorem hnd_keep {i j k : Nat} {d : D} : hnd (.keep j) i k d ρ st = if decide (i < ρ.length) && decide (j < ρ.length) && decide (i ≠ j) then .nx ((ρ.set j (some (.exv k d))).set i none) st else .bad := (rfl)
/-! ### sources -/
def lisW (x : D) (st : Store) : R Walk := match x with
  | .lst ds => .ok { its := ds } st
  | .scr ns => .ok { its := ns.map .int } st
  | .cel k => match st[k]? with
    | some (.lst ds) => .ok { its := ds, cell := some k } st
    | _ => .bad
  | _ => .bad
@[simp] theorem lisW_lst {ds : List D} : lisW (.lst ds) st = .ok { its := ds } st := (rfl)
@[simp] theorem lisW_scr {ns : List Int} : lisW (.scr ns) st = .ok { its := ns.map .int } st := (rfl)
theorem lisW_cel {k : Nat} {ds : List D} (h : st[k]? = some (.lst ds)) : lisW (.cel k) st = .ok { its := ds, cell := some k } st := by
  show (match st[k]? with | some (.lst ds) => _ | _ => _) = _
  rw [h]
@[simp] theorem w_lis {e : Ex} : evw c (.lis e) ρ st = (ev c e ρ st).bind fun x st => lisW x st := by (rw [evw]) <;> rfl
def tplW (x : D) (st : Store) : R Walk := match x with
  | .tup ds => .ok { its := ds } st
  | _ => .bad
@[simp] theorem tplW_tup {ds : List D} : tplW (.tup ds) st = .ok { its := ds } st := (rfl)
@[simp] theorem w_tpl {e : Ex} : evw c (.tpl e) ρ st = (ev c e ρ st).bind fun x st => tplW x st := by (rw [evw]) <;> rfl
def txtW (x : D) (st : Store) : R Walk := match x with
  | .str z => .ok { its := z.cps.toList.map fun k => .str ⟨#[k]⟩ } st
  | _ => .bad
@[simp] theorem txtW_str {z : Str} : txtW (.str z) st = .ok { its := z.cps.toList.map fun k => .str ⟨#[k]⟩ } st := (rfl)
@[simp] theorem w_txt {e : Ex} : evw c (.txt e) ρ st = (ev c e ρ st).bind fun x st => txtW x st := by (rw [evw]) <;> rfl
def rg1W (x : D) (st : Store) : R Walk := match x with
  | .int n => if -(2 ^ 62) ≤ n ∧ n < 2 ^ 62 then .ok { its := (List.range n.toNat).map fun (k : Nat) => .int (k : Int) } st else .bad
  | _ => .bad
@[simp] theorem rg1W_int {n : Int} : rg1W (.int n) st = if -(2 ^ 62) ≤ n ∧ n < 2 ^ 62 then .ok { its := (List.range n.toNat).map fun (k : Nat) => .int (k : Int) } st else .bad := (rfl)
@[simp] theorem w_rg1 {e : Ex} : evw c (.rg1 e) ρ st = (ev c e ρ st).bind fun x st => rg1W x st := by
  rw [evw]
  congr 1
  funext x st
  cases x <;> try rfl
  unfold rg1W
  simp only [Bool.and_eq_true, decide_eq_true_eq]
def rg2W (x y : D) (st : Store) : R Walk := match x, y with
  | .int l, .int h => if -(2 ^ 62) ≤ l ∧ l < 2 ^ 62 ∧ -(2 ^ 62) ≤ h ∧ h < 2 ^ 62 then .ok { its := (List.range (h - l).toNat).map fun (k : Nat) => .int (l + (k : Int)) } st else .bad
  | _, _ => .bad
@[simp] theorem rg2W_int {l h : Int} : rg2W (.int l) (.int h) st = if -(2 ^ 62) ≤ l ∧ l < 2 ^ 62 ∧ -(2 ^ 62) ≤ h ∧ h < 2 ^ 62 then .ok { its := (List.range (h - l).toNat).map fun (k : Nat) => .int (l + (k : Int)) } st else .bad := (rfl)
@[simp] theorem w_rg2 {a b : Ex} : evw c (.rg2 a b) ρ st = (ev c a ρ st).bind fun x st => (ev c b ρ st).bind fun y st => rg2W x y st := by
  rw [evw]
  congr 1
  funext x st
  congr 1
  funext y st
  cases x <;> try rfl
  cases y <;> try rfl
  unfold rg2W
  simp only [Bool.and_eq_true, decide_eq_true_eq, and_assoc]
def enuW (x : D) (st : Store) : R Walk := match x with
  | .lst ds => .ok { its := pairs 0 ds } st
  | _ => .bad
@[simp] theorem enuW_lst {ds : List D} : enuW (.lst ds) st = .ok { its := pairs 0 ds } st := (rfl)
@[simp] theorem w_enu {e : Ex} : evw c (.enu e) ρ st = (ev c e ρ st).bind fun x st => enuW x st := by (rw [evw]) <;> rfl
def zipW (s : Bool) (x y : D) (st : Store) : R Walk := match x, y with
  | .lst xs, .lst ys => if xs.length = ys.length then .ok { its := (xs.zip ys).map fun p => .tup [p.1, p.2] } st else .bad
  | .tup xs, .tup ys => if s = true then .bad else if xs.length = ys.length then .ok { its := (xs.zip ys).map fun p => .tup [p.1, p.2] } st else .bad
  | _, _ => .bad
@[simp] theorem zipW_lst {b : Bool} {xs ys : List D} : zipW b (.lst xs) (.lst ys) st = if xs.length = ys.length then .ok { its := (xs.zip ys).map fun p => .tup [p.1, p.2] } st else .bad := (rfl)
@[simp] theorem zipW_tup {xs ys : List D} : zipW false (.tup xs) (.tup ys) st = if xs.length = ys.length then .ok { its := (xs.zip ys).map fun p => .tup [p.1, p.2] } st else .bad := (rfl)
@[simp] theorem w_zip {b : Bool} {x y : Ex} : evw c (.zip b x y) ρ st = (ev c x ρ st).bind fun x st => (ev c y ρ st).bind fun y st => zipW b x y st := by (rw [evw]) <;> rfl
end
/-! ### comprehensions over what can't change -/
def lcP {α : Type} (f : α → Store → R (Option D)) : List α → List D → Store → R (List D)
  | [], acc, st => .ok acc st
  | x :: xs, acc, st => (f x st).bind fun o st => match o with
    | some y => if acc.length < line then lcP f xs (acc ++ [y]) st else .bad
    | none => lcP f xs acc st
/-- the list that comes of it -/
def lcR {α : Type} (f : α → Store → R (Option D)) (xs : List α) (st : Store) : R D := (noExc (lcP f xs [] st)).bind fun ys st => .ok (.lst ys) st
theorem lcGo_lcP {w : Walk} (hw : w.cell = none) (f : D → Store → R (Option D)) : ∀ (ds acc : List D) (st : Store), lcGo w f ds acc st = lcP f ds acc st
  | [], acc, st => by
    have : still w st = true := by unfold still; rw [hw]
    rw [lcGo, if_pos this]; rfl
  | d :: ds, acc, st => by
    have : still w st = true := by unfold still; rw [hw]
    rw [lcGo, if_pos this, lcP]
    congr 1
    funext o st
    cases o with
    | none => exact lcGo_lcP hw f ds acc st
    | some y => simp only [lcGo_lcP hw f ds]
theorem lcP_map {α : Type} {enc : α → D} {f : D → Store → R (Option D)} : ∀ (xs : List α) (acc : List D) (st : Store), lcP f (xs.map enc) acc st = lcP (fun x => f (enc x)) xs acc st
  | [], acc, st => rfl
  | x :: xs, acc, st => by
    rw [List.map_cons, lcP, lcP]
    congr 1
    funext o st
    cases o with
    | none => exact lcP_map xs acc st
    | some y => simp only [lcP_map xs]
@[simp] theorem lcR_mapI {α : Type} {enc : α → D} {f : D → Store → R (Option D)} {xs : List α} {st : Store} : lcR f (xs.map enc) st = lcR (fun x => f (enc x)) xs st := by
  unfold lcR
  rw [lcP_map]
def lcW (f : D → Store → R (Option D)) (w : Walk) (st : Store) : R D := (noExc (lcGo w f w.its [] st)).bind fun ys st => .ok (.lst ys) st
@[simp] theorem lcW_non {f : D → Store → R (Option D)} {ds : List D} {st : Store} : lcW f { its := ds } st = lcR f ds st := by
  unfold lcW lcR
  rw [lcGo_lcP rfl]
@[simp] theorem x_lc {c : Cxt} {ρ : Sl} {st : Store} {x : Ex} {tg : List Nat} {tp : Bool} {s : Sr} {i : Ox} {own : List Nat} : ev c (.lc x tg tp s i own) ρ st = (evw c s ρ st).bind fun w st => lcW (elt c x tg tp i (wipe ρ own)) w st := e_lc
theorem lcP_pure {α : Type} {f : α → Store → R (Option D)} {g : α → Option D} {st : Store} : ∀ (xs : List α) (acc : List D), (∀ x ∈ xs, f x st = .ok (g x) st) → acc.length + xs.length ≤ line → lcP f xs acc st = .ok (acc ++ xs.filterMap g) st
  | [], acc, _, _ => by simp [lcP]
  | d :: ds, acc, h, hl => by
    have hl : acc.length + (ds.length + 1) ≤ line := hl
    have h' : ∀ e ∈ ds, f e st = .ok (g e) st := fun e he => h e (List.mem_cons_of_mem _ he)
    rw [lcP, h d List.mem_cons_self]
    cases hg : g d with
    | none =>
      rw [R.bind_ok]
      show lcP f ds acc st = _
      rw [lcP_pure ds acc h' (by omega), List.filterMap_cons_none hg]
    | some y =>
      rw [R.bind_ok]
      show (if acc.length < line then lcP f ds (acc ++ [y]) st else .bad) = _
      rw [if_pos (by omega), lcP_pure ds (acc ++ [y]) h' (by rw [List.length_append]; simp only [List.length_cons, List.length_nil]; omega), List.filterMap_cons_some hg, List.append_assoc]
      rfl
theorem lcR_fm {α : Type} {f : α → Store → R (Option D)} (g : α → Option D) {xs : List α} {st : Store} (hl : xs.length ≤ line) (h : ∀ x ∈ xs, f x st = .ok (g x) st) : lcR f xs st = .ok (.lst (xs.filterMap g)) st := by
  unfold lcR
  rw [lcP_pure xs [] h (by simpa using hl)]
  rfl
theorem lcR_ok {α : Type} {f : α → Store → R (Option D)} (F : α → D) {xs : List α} {st : Store} (hl : xs.length ≤ line) (h : ∀ x ∈ xs, f x st = .ok (some (F x)) st) : lcR f xs st = .ok (.lst (xs.map F)) st := by
  rw [lcR_fm (fun x => some (F x)) hl h]
  congr 2
  induction xs with
  | nil => rfl
  | cons a r ih => rw [List.filterMap_cons, List.map_cons, ih (Nat.le_trans (Nat.le_succ _) hl) (fun x hx => h x (List.mem_cons_of_mem _ hx))]
theorem lcR_if {α : Type} {f : α → Store → R (Option D)} (p : α → Bool) (F : α → D) {xs : List α} {st : Store} (hl : xs.length ≤ line) (h : ∀ x ∈ xs, f x st = if p x then .ok (some (F x)) st else .ok none st) : lcR f xs st = .ok (.lst ((xs.filter p).map F)) st := by
  rw [lcR_fm (fun x => if p x then some (F x) else none) hl (fun x hx => by rw [h x hx]; split <;> rfl)]
  congr 2
  clear h hl
  induction xs with
  | nil => rfl
  | cons a r ih =>
    rw [List.filterMap_cons, ih, List.filter_cons]
    cases p a <;> rfl
/-- closed by simp alone -/
@[simp] theorem lcR_ok' {α : Type} {F : α → D} {xs : List α} {st : Store} (hl : xs.length ≤ line) : lcR (fun x st => .ok (some (F x)) st) xs st = .ok (.lst (xs.map F)) st := lcR_ok F hl fun _ _ => rfl
@[simp] theorem lcR_if' {α : Type} {p : α → Prop} [∀ x, Decidable (p x)] {F : α → D} {xs : List α} {st : Store} (hl : xs.length ≤ line) : lcR (fun x st => if p x then .ok (some (F x)) st else .ok none st) xs st = .ok (.lst ((xs.filter fun x => decide (p x)).map F)) st := lcR_if (fun x => decide (p x)) F hl fun x _ => by by_cases h : p x <;> simp [h]
@[simp] theorem tb_bl {b : Bool} : tb (.bl b) = some b := (rfl)
section
variable {c : Cxt} {ρ : Sl} {st : Store}
@[simp] theorem q_non : evt c .non ρ st = .ok true st := by rw [evt]
@[simp] theorem q_som {e : Ex} : evt c (.som e) ρ st = (ev c e ρ st).bind fun x st => ofO (tb x) st := by rw [evt]
end
def asgO (o : Option Sl) (f : Sl → R (Option D)) : R (Option D) := match o with
  | none => .bad
  | some ρ => f ρ
@[simp] theorem asgO_some {ρ : Sl} {f : Sl → R (Option D)} : asgO (some ρ) f = f ρ := (rfl)
@[simp] theorem elt_eq {c : Cxt} {x : Ex} {tg : List Nat} {tp : Bool} {i : Ox} {ρ : Sl} {d : D} : elt c x tg tp i ρ d = fun st => asgO (asgT tg tp d ρ) fun ρ1 => (evt c i ρ1 st).bind fun b st => if b then (ev c x ρ1 st).bind fun y st => .ok (some y) st else .ok none st := by
  funext st
  unfold elt asgO
  rfl
@[simp] theorem asgT_f {tg : List Nat} {d : D} {ρ : Sl} : asgT tg false d ρ = asg1 tg [d] ρ := (rfl)
@[simp] theorem asgT_t {tg : List Nat} {ds : List D} {ρ : Sl} : asgT tg true (.tup ds) ρ = asg1 tg ds ρ := (rfl)
@[simp] theorem asg1_nil {ρ : Sl} : asg1 [] [] ρ = some ρ := (rfl)
@[simp] theorem asg1_cons {i : Nat} {is : List Nat} {d : D} {ds : List D} {ρ : Sl} : asg1 (i :: is) (d :: ds) ρ = if i < ρ.length then asg1 is ds (ρ.set i (some d)) else none := (rfl)
@[simp] theorem set1_eq {i : Nat} {d : D} {ρ : Sl} : set1 i d ρ = if i < ρ.length then some (ρ.set i (some d)) else none := (rfl)
@[simp] theorem wipe_nil {ρ : Sl} : wipe ρ [] = ρ := (rfl)
@[simp] theorem wipe_cons {ρ : Sl} {v : Nat} {vs : List Nat} : wipe ρ (v :: vs) = (wipe ρ vs).set v none := (rfl)
@[simp] theorem forT_eq {c : Cxt} {tg : List Nat} {tp : Bool} {b : Sms} {d : D} {ρ : Sl} {st : Store} : forT c tg tp b d ρ st = (ofS (asgT tg tp d ρ) st).thn fun ρ st => exs c b ρ st := by
  unfold forT
  cases asgT tg tp d ρ <;> rfl
@[simp] theorem pick_nil {α : Type} {ds : List α} : pick [] ds = some [] := (rfl)
@[simp] theorem pick_cons {α : Type} {i : Nat} {r : List Nat} {ds : List α} : pick (i :: r) ds = (ds[i]?).bind fun d => (pick r ds).map fun rs => d :: rs := (rfl)
/-! ### a def -/
def outR (r : E) : R D := match r with
  | .nx _ st => .ok .non st
  | .rt d st => .ok d st
  | .exc k d _ st => .exc k d st
  | _ => .bad
@[simp] theorem outR_nx {ρ : Sl} {st : Store} : outR (.nx ρ st) = .ok .non st := (rfl)
@[simp] theorem outR_rt {d : D} {st : Store} : outR (.rt d st) = .ok d st := (rfl)
@[simp] theorem outR_exc {k : Nat} {d : D} {ρ : Sl} {st : Store} : outR (.exc k d ρ st) = .exc k d st := (rfl)
@[simp] theorem outR_ite {p : Prop} [Decidable p] {a b : E} : outR (if p then a else b) = if p then outR a else outR b := by split <;> rfl
theorem run1_eq {c : Cxt} {f : Fn} {ds : List D} {st : Store} : run1 c f ds st = if ds.length = f.ar then outR (exs c f.body (ds.map some ++ List.replicate (f.sl - ds.length) none) st) else .bad := by
  unfold run1 outR
  rfl
/-! ### free and pure values -/
@[simp] theorem fr_nil : freeDs [] = true := by rw [freeDs]
@[simp] theorem fr_cons {d : D} {ds : List D} : freeDs (d :: ds) = (freeD d && freeDs ds) := by rw [freeDs]
@[simp] theorem fr_non : freeD .non = true := by rw [freeD]
@[simp] theorem fr_bl {b : Bool} : freeD (.bl b) = true := by rw [freeD]
@[simp] theorem fr_int {i : Int} : freeD (.int i) = true := by rw [freeD]
@[simp] theorem fr_str {z : Str} : freeD (.str z) = true := by rw [freeD]
@[simp] theorem fr_lst {ds : List D} : freeD (.lst ds) = freeDs ds := by rw [freeD]
@[simp] theorem fr_tup {ds : List D} : freeD (.tup ds) = freeDs ds := by rw [freeD]
@[simp] theorem fr_fn {f : Nat} : freeD (.fn f) = true := by rw [freeD]
@[simp] theorem fr_scr {ns : List Int} : freeD (.scr ns) = true := by rw [freeD]
@[simp] theorem fr_dic0 : freeD (.dic []) = true := by rw [freeD, freeDk]
theorem freeDs_all : ∀ ds : List D, freeDs ds = ds.all freeD
  | [] => by simp
  | d :: ds => by simp [freeDs_all ds]
@[simp] theorem fr_map {α : Type} {f : α → D} {xs : List α} (h : ∀ x, freeD (f x) = true) : freeDs (xs.map f) = true := by
  rw [freeDs_all, List.all_eq_true]
  intro d hd
  obtain ⟨x, _, rfl⟩ := List.mem_map.mp hd
  exact h x
@[simp] theorem fr_app {xs ys : List D} : freeDs (xs ++ ys) = (freeDs xs && freeDs ys) := by
  rw [freeDs_all, freeDs_all, freeDs_all, List.all_append]
@[simp] theorem pu_nil : pureDs [] = true := by rw [pureDs]
@[simp] theorem pu_cons {d : D} {ds : List D} : pureDs (d :: ds) = (pureD d && pureDs ds) := by rw [pureDs]
@[simp] theorem pu_non : pureD .non = true := by rw [pureD]
@[simp] theorem pu_bl {b : Bool} : pureD (.bl b) = true := by rw [pureD]
@[simp] theorem pu_int {i : Int} : pureD (.int i) = true := by rw [pureD]
@[simp] theorem pu_str {z : Str} : pureD (.str z) = true := by rw [pureD]
@[simp] theorem pu_lst {ds : List D} : pureD (.lst ds) = pureDs ds := by rw [pureD]
@[simp] theorem pu_tup {ds : List D} : pureD (.tup ds) = pureDs ds := by rw [pureD]
@[simp] theorem pu_map {α : Type} {f : α → D} {xs : List α} (h : ∀ x, pureD (f x) = true) : pureDs (xs.map f) = true := by
  rw [pureDs_all, List.all_eq_true]
  intro d hd
  obtain ⟨x, _, rfl⟩ := List.mem_map.mp hd
  exact h x
@[simp] theorem toP_int {i : Int} : toP (.int i) = .int i := by rw [toP]
@[simp] theorem toP_str {z : Str} : toP (.str z) = .str z := by rw [toP]
@[simp] theorem toP_non : toP .non = .none := by rw [toP]
@[simp] theorem toP_bl {b : Bool} : toP (.bl b) = .bool b := by rw [toP]
@[simp] theorem toP_lst {ds : List D} : toP (.lst ds) = .list (ds.map toP) := by rw [toP, toPs_map]
@[simp] theorem toP_tup {ds : List D} : toP (.tup ds) = .tuple (ds.map toP) := by rw [toP, toPs_map]
/-! ### typed data -/
theorem beq_dec {α : Type} [BEq α] [LawfulBEq α] [DecidableEq α] (a b : α) : (a == b) = decide (a = b) := by
  rw [Bool.eq_iff_iff, beq_iff_eq, decide_eq_true_eq]
/-- a type whose things are plain values -/
class Enc (α : Type) [DecidableEq α] where
  d : α → D
  ok : α → Prop
  pur : ∀ a, pureD (d a) = true
  can : ∀ a, ok a → (toP (d a)).canLay0 = true
  dep : Nat
  depth : ∀ a, (toP (d a)).depth ≤ dep
  eqv : ∀ a b, PyData.eqv (toP (d a)) (toP (d b)) = decide (a = b)
instance : Enc Int where
  d := .int
  ok _ := True
  pur _ := pu_int
  can _ _ := by rw [toP_int]; rfl
  dep := 0
  depth _ := by rw [toP_int]; exact Nat.le_refl _
  eqv a b := by rw [toP_int, toP_int]; simp only [PyData.eqv]; exact beq_dec a b
instance : Enc Str where
  d := .str
  ok z := PyData.strOk z = true
  pur _ := pu_str
  can _ h := by rw [toP_str]; simp only [PyData.canLay0]; exact h
  dep := 0
  depth _ := by rw [toP_str]; exact Nat.le_refl _
  eqv a b := by rw [toP_str, toP_str]; simp only [PyData.eqv]; exact beq_dec a b
theorem depthAll_le {n : Nat} : ∀ (xs : List PyData), (∀ x ∈ xs, x.depth ≤ n) → PyData.depthAll xs ≤ n
  | [], _ => by simp only [PyData.depthAll]; exact Nat.zero_le _
  | x :: xs, h => by
    simp only [PyData.depthAll]
    exact Nat.max_le.mpr ⟨h x List.mem_cons_self, depthAll_le xs fun y hy => h y (List.mem_cons_of_mem _ hy)⟩
theorem canAll_of : ∀ (xs : List PyData), (∀ x ∈ xs, x.canLay0 = true) → PyData.canLayAll0 xs = true
  | [], _ => by simp only [PyData.canLayAll0]
  | x :: xs, h => by
    simp only [PyData.canLayAll0]
    rw [h x List.mem_cons_self, canAll_of xs fun y hy => h y (List.mem_cons_of_mem _ hy)]
    rfl
theorem eqvAll_enc {α : Type} [DecidableEq α] [Enc α] : ∀ (xs ys : List α), PyData.eqvAll ((xs.map Enc.d).map toP) ((ys.map Enc.d).map toP) = decide (xs = ys)
  | [], [] => by simp [PyData.eqvAll]
  | [], _ :: _ => by simp [PyData.eqvAll]
  | _ :: _, [] => by simp [PyData.eqvAll]
  | x :: xs, y :: ys => by
    simp only [List.map_cons, PyData.eqvAll]
    rw [Enc.eqv, eqvAll_enc xs ys, ← Bool.decide_and]
    exact decide_eq_decide.mpr (by rw [List.cons.injEq])
instance {α : Type} [DecidableEq α] [Enc α] : Enc (List α) where
  d xs := .lst (xs.map Enc.d)
  ok xs := ∀ x ∈ xs, Enc.ok x
  pur xs := by rw [pu_lst]; exact pu_map Enc.pur
  can xs h := by
    rw [toP_lst]
    simp only [PyData.canLay0]
    refine canAll_of _ fun y hy => ?_
    obtain ⟨z, hz, rfl⟩ := List.mem_map.mp hy
    obtain ⟨x, hx, rfl⟩ := List.mem_map.mp hz
    exact Enc.can x (h x hx)
  dep := Enc.dep α + 1
  depth xs := by
    rw [toP_lst]
    simp only [PyData.depth]
    refine Nat.succ_le_succ (depthAll_le _ fun y hy => ?_)
    obtain ⟨z, hz, rfl⟩ := List.mem_map.mp hy
    obtain ⟨x, hx, rfl⟩ := List.mem_map.mp hz
    exact Enc.depth x
  eqv xs ys := by
    rw [toP_lst, toP_lst]
    simp only [PyData.eqv]
    exact eqvAll_enc xs ys
section
variable {α : Type} [DecidableEq α] [Enc α]
theorem shaped_enc {a : α} (h : Enc.ok a) (hd : Enc.dep α ≤ 64) : SeqAt.shaped (toP (Enc.d a)) = true := by
  unfold SeqAt.shaped
  rw [Enc.can a h, Bool.true_and, decide_eq_true_eq]
  exact Nat.le_trans (Enc.depth a) hd
theorem snap_pure {st : Store} {d : D} (h : pureD d = true) : snap st d = some d := by
  cases d <;> first | (simp [pureD] at h; done) | exact if_pos (e := none) h
theorem eq_enc {st : Store} {a b : α} (ha : Enc.ok a) (hb : Enc.ok b) (hd : Enc.dep α ≤ 64) : eqD st (Enc.d a) (Enc.d b) = some (decide (a = b)) := by
  unfold eqD
  rw [snap_pure (Enc.pur a), snap_pure (Enc.pur b)]
  show (if _ then _ else _) = _
  rw [shaped_enc ha hd, shaped_enc hb hd, Enc.eqv]
  rfl
theorem any_enc (xs : List α) (x : α) : (((xs.map Enc.d).map toP).any fun z => PyData.eqv z (toP (Enc.d x))) = decide (x ∈ xs) := by
  rw [List.map_map, List.any_map, Bool.eq_iff_iff, List.any_eq_true, decide_eq_true_eq]
  constructor
  · rintro ⟨y, hy, e⟩
    have e' : PyData.eqv (toP (Enc.d y)) (toP (Enc.d x)) = true := e
    rw [Enc.eqv, decide_eq_true_eq] at e'
    exact e' ▸ hy
  · intro hx
    refine ⟨x, hx, ?_⟩
    show PyData.eqv (toP (Enc.d x)) (toP (Enc.d x)) = true
    rw [Enc.eqv, decide_eq_true_eq]
theorem snap_cel {st : Store} {k : Nat} {ds : List D} (h : st[k]? = some (.lst ds)) (hp : pureDs ds = true) : snap st (.cel k) = some (.lst ds) := by
  show (match st[k]? with | some (.lst ds) => if pureDs ds then some (D.lst ds) else none | _ => none) = _
  rw [h]
  exact if_pos hp
theorem dicAt_snap {st : Store} {k : Nat} {x : D} (h : snap st (.cel k) = some x) : dicAt st (.cel k) = none := by
  have h : (match st[k]? with | some (.lst ds) => if pureDs ds then some (D.lst ds) else none | _ => none) = some x := h
  show (match st[k]? with | some (.dic kvs) => some kvs | _ => none) = none
  cases hk : st[k]? with
  | none => rfl
  | some c =>
    rw [hk] at h
    cases c with
    | dic kvs => cases h
    | _ => rfl
theorem in_dic {st : Store} {k : Nat} {kvs : List (L2.Key × D)} {x : Str} (h : st[k]? = some (.dic kvs)) : inD st (.str x) (.cel k) = some (dHas kvs (.inr x)) := by
  have e : dicAt st (.cel k) = some kvs := by
    show (match st[k]? with | some (.dic kvs) => some kvs | _ => none) = some kvs
    rw [h]
  unfold inD
  rw [e]
  rfl
theorem sti_dic {st : Store} {k : Nat} {kvs : List (L2.Key × D)} {x : Str} {d : D} (h : st[k]? = some (.dic kvs)) (hl : kvs.length < line) : stiD st (.cel k) (.str x) d = some (st.set k (.dic (dPut kvs (.inr x) d))) := by
  show (match st[k]? with | some (.dic kvs) => if kvs.length < line then some (st.set k (.dic (dPut kvs (.inr x) d))) else none | _ => none) = _
  rw [h]
  exact if_pos hl
theorem in_gen {st : Store} {x : α} {b : D} {ys : List α} (hx : Enc.ok x) (hy : Enc.ok ys) (hd : Enc.dep α < 64) (hb : (∃ k, b = .cel k) ∨ ∃ ds, b = .lst ds) (hs : snap st b = some (Enc.d ys)) : inD st (Enc.d x) b = some (decide (x ∈ ys)) := by
  have e : inD st (Enc.d x) b = match snap st (Enc.d x), snap st b with
    | some x, some (.lst ys) => if SeqAt.shaped (toP x) && SeqAt.shaped (.list (toPs ys)) then some ((toPs ys).any fun z => PyData.eqv z (toP x)) else none
    | _, _ => none := by
    rcases hb with ⟨k, rfl⟩ | ⟨ds, rfl⟩
    · unfold inD
      (rw [dicAt_snap hs]) <;> rfl
    · rfl
  have sh : SeqAt.shaped (toP (Enc.d ys)) = true := shaped_enc hy (by show Enc.dep α + 1 ≤ 64; omega)
  have ed : (Enc.d ys : D) = D.lst (ys.map Enc.d) := rfl
  rw [e, hs, snap_pure (Enc.pur x), ed]
  rw [ed, toP_lst] at sh
  show (if SeqAt.shaped (toP (Enc.d x)) && SeqAt.shaped (.list (toPs (ys.map Enc.d))) then some ((toPs (ys.map Enc.d)).any fun z => PyData.eqv z (toP (Enc.d x))) else none) = _
  rw [toPs_map, sh, shaped_enc hx (by omega), any_enc]
  rfl
theorem in_enc {st : Store} {x : α} {ys : List α} (hx : Enc.ok x) (hy : Enc.ok ys) (hd : Enc.dep α < 64) : inD st (Enc.d x) (.lst (ys.map Enc.d)) = some (decide (x ∈ ys)) :=
  in_gen hx hy hd (.inr ⟨_, rfl⟩) (snap_pure (Enc.pur ys))
theorem in_encC {st : Store} {x : α} {ys : List α} {k : Nat} (hx : Enc.ok x) (hy : Enc.ok ys) (hd : Enc.dep α < 64) (hk : st[k]? = some (.lst (ys.map Enc.d))) : inD st (Enc.d x) (.cel k) = some (decide (x ∈ ys)) :=
  in_gen hx hy hd (.inl ⟨_, rfl⟩) (by rw [snap_cel hk (by have := Enc.pur ys; rwa [show (Enc.d ys : D) = D.lst (ys.map Enc.d) from rfl, pu_lst] at this)]; rfl)
end
/-! ### by kinds -/
abbrev dL (l : List Int) : D := .lst (l.map .int)
abbrev dLL (l : List (List Int)) : D := .lst (l.map dL)
abbrev dS (l : List Str) : D := .lst (l.map .str)
def okZ (z : Str) : Prop := PyData.strOk z = true
section
variable {st : Store}
@[simp] theorem eq_II {a b : Int} : eqD st (.int a) (.int b) = some (decide (a = b)) := eq_enc (α := Int) trivial trivial (Nat.zero_le _)
@[simp] theorem eq_SS {a b : Str} (ha : okZ a) (hb : okZ b) : eqD st (.str a) (.str b) = some (decide (a = b)) := eq_enc (α := Str) ha hb (Nat.zero_le _)
theorem okL (l : List Int) : Enc.ok l := fun _ _ => trivial
theorem okLL (l : List (List Int)) : Enc.ok l := fun _ _ => okL _
@[simp] theorem eq_LL {a b : List Int} : eqD st (.lst (a.map .int)) (.lst (b.map .int)) = some (decide (a = b)) := eq_enc (α := List Int) (okL a) (okL b) (by decide)
@[simp] theorem eq_L0 {a : List Int} : eqD st (.lst (a.map .int)) (.lst []) = some (decide (a = [])) := eq_LL (b := [])
@[simp] theorem eq_MM {a b : List (List Int)} : eqD st (.lst (a.map fun l => .lst (l.map .int))) (.lst (b.map fun l => .lst (l.map .int))) = some (decide (a = b)) := eq_enc (α := List (List Int)) (okLL a) (okLL b) (by decide)
@[simp] theorem eq_M0 {a : List (List Int)} : eqD st (.lst (a.map fun l => .lst (l.map .int))) (.lst []) = some (decide (a = [])) := eq_MM (b := [])
theorem eq_ZZ {a b : List Str} (ha : ∀ z ∈ a, okZ z) (hb : ∀ z ∈ b, okZ z) : eqD st (.lst (a.map .str)) (.lst (b.map .str)) = some (decide (a = b)) := eq_enc (α := List Str) ha hb (by decide)
@[simp] theorem eq_Z0 {a : List Str} (ha : ∀ z ∈ a, okZ z) : eqD st (.lst (a.map .str)) (.lst []) = some (decide (a = [])) := eq_ZZ (b := []) ha (by simp)
@[simp] theorem in_IL {i : Int} {l : List Int} : inD st (.int i) (.lst (l.map .int)) = some (decide (i ∈ l)) := in_enc (α := Int) trivial (okL l) (by decide)
@[simp] theorem in_LM {i : List Int} {l : List (List Int)} : inD st (.lst (i.map .int)) (.lst (l.map fun l => .lst (l.map .int))) = some (decide (i ∈ l)) := (in_enc (α := List Int) (okL i) (okLL l) (by decide)).trans (congrArg some (decide_eq_decide.mpr Iff.rfl))
theorem in_LC {i : List Int} {l : List (List Int)} {k : Nat} (hk : st[k]? = some (.lst (l.map fun l => .lst (l.map .int)))) : inD st (.lst (i.map .int)) (.cel k) = some (decide (i ∈ l)) := (in_encC (α := List Int) (okL i) (okLL l) (by decide) hk).trans (congrArg some (decide_eq_decide.mpr Iff.rfl))
@[simp] theorem blsD_nil : blsD [] = some [] := (rfl)
@[simp] theorem qblsD_map {α : Type} {f : α → Bool} : ∀ {xs : List α}, blsD (xs.map fun x => D.bl (f x)) = some (xs.map f)
  | [] => rfl
  | x :: xs => by
    show (blsD (xs.map fun x => D.bl (f x))).map _ = _
    rw [qblsD_map (xs := xs)]
    rfl
@[simp] theorem qstrsD_map {α : Type} {f : α → Str} : ∀ {xs : List α}, strsD (xs.map fun x => D.str (f x)) = some (xs.map f)
  | [] => rfl
  | x :: xs => by
    show (strsD (xs.map fun x => D.str (f x))).map _ = _
    rw [qstrsD_map (xs := xs)]
    rfl
@[simp] theorem qintsD_map {α : Type} {f : α → Int} : ∀ {xs : List α}, intsD (xs.map fun x => D.int (f x)) = some (xs.map f)
  | [] => rfl
  | x :: xs => by
    show (intsD (xs.map fun x => D.int (f x))).map _ = _
    rw [qintsD_map (xs := xs)]
    rfl
@[simp] theorem intsD_int {l : List Int} : intsD (l.map D.int) = some l := by
  have := qintsD_map (f := fun i => i) (xs := l)
  simpa using this
@[simp] theorem strsD_nil : strsD [] = some [] := (rfl)
@[simp] theorem strsD_cons {z : Str} {r : List D} : strsD (.str z :: r) = (strsD r).map (z :: ·) := (rfl)
@[simp] theorem pairs_nil {n : Nat} : pairs n [] = [] := (rfl)
theorem pairs_map {α : Type} {f : α → D} : ∀ {n : Nat} {xs : List α}, pairs n (xs.map f) = (xs.zipIdx n).map fun p => .tup [.int p.2, f p.1]
  | _, [] => rfl
  | n, x :: xs => by
    rw [List.map_cons, List.zipIdx_cons, List.map_cons, pairs, pairs_map (n := n + 1) (xs := xs)]
@[simp] theorem lenD_lst {ds : List D} : lenD st (.lst ds) = some ds.length := (rfl)
@[simp] theorem isi_int {i : Int} {t : Ty} : isiD st t (.int i) = (match t with | .exc k => none | .ver => none | .int => some true | _ => some false) := by cases t <;> rfl
@[simp] theorem isi_lst {ds : List D} {t : Ty} : isiD st t (.lst ds) = (match t with | .exc k => none | .ver => none | .list => some true | _ => some false) := by cases t <;> rfl
@[simp] theorem isi_str {z : Str} {t : Ty} : isiD st t (.str z) = (match t with | .exc k => none | .ver => none | .str => some true | _ => some false) := by cases t <;> rfl
@[simp] theorem isi_ver {j : Nat} {d : D} : isiD st .ver (.exv j d) = some true := (rfl)
@[simp] theorem isi_exv {k j : Nat} {d : D} : isiD st (.exc k) (.exv j d) = some (decide (j = k) || decide (k = 0)) := (rfl)
@[simp] theorem atI_nat {α : Type} {xs : List α} {k : Nat} : L2.atI xs (k : Int) = xs[k]? := by
  unfold L2.atI L2.ixN
  rw [if_pos (by omega)]
  by_cases h : k < xs.length
  · rw [if_pos (by omega)]
    rfl
  · rw [if_neg (by omega), List.getElem?_eq_none (by omega)]
    rfl
@[simp] theorem atI_2 {α : Type} {xs : List α} : L2.atI xs 2 = xs[2]? := atI_nat (k := 2)
@[simp] theorem atI_3 {α : Type} {xs : List α} : L2.atI xs 3 = xs[3]? := atI_nat (k := 3)
@[simp] theorem atI_4 {α : Type} {xs : List α} : L2.atI xs 4 = xs[4]? := atI_nat (k := 4)
@[simp] theorem atI_5 {α : Type} {xs : List α} : L2.atI xs 5 = xs[5]? := atI_nat (k := 5)
@[simp] theorem atI_6 {α : Type} {xs : List α} : L2.atI xs 6 = xs[6]? := atI_nat (k := 6)
@[simp] theorem atI_7 {α : Type} {xs : List α} : L2.atI xs 7 = xs[7]? := atI_nat (k := 7)
@[simp] theorem atI_0 {α : Type} {xs : List α} : L2.atI xs 0 = xs[0]? := atI_nat (k := 0)
@[simp] theorem atI_1 {α : Type} {xs : List α} : L2.atI xs 1 = xs[1]? := atI_nat (k := 1)
@[simp] theorem atI_1p {α : Type} {xs : List α} {k : Nat} : L2.atI xs (1 + (k : Int)) = xs[k + 1]? := by
  rw [show (1 : Int) + (k : Int) = ((k + 1 : Nat) : Int) by omega]
  exact atI_nat
@[simp] theorem one_add_sub {x : Int} : 1 + x - 1 = x := by omega
@[simp] theorem lt62 {n : Nat} (h : n ≤ line) : (n : Int) < 4611686018427387904 := by unfold line at h; omega
@[simp] theorem gt62 {n : Nat} : -4611686018427387904 ≤ (n : Int) := by omega
@[simp] theorem le1_line : 1 ≤ line := by decide
@[simp] theorem le2_line : 2 ≤ line := by decide
@[simp] theorem le3_line : 3 ≤ line := by decide
@[simp] theorem le4_line : 4 ≤ line := by decide
@[simp] theorem le5_line : 5 ≤ line := by decide
@[simp] theorem lt0_line : 0 < line := by decide
@[simp] theorem le6_line : 6 ≤ line := by decide
@[simp] theorem le7_line : 7 ≤ line := by decide
@[simp] theorem le8_line : 8 ≤ line := by decide
@[simp] theorem le9_line : 9 ≤ line := by decide
@[simp] theorem le10_line : 10 ≤ line := by decide
@[simp] theorem le11_line : 11 ≤ line := by decide
@[simp] theorem le12_line : 12 ≤ line := by decide
@[simp] theorem le13_line : 13 ≤ line := by decide
@[simp] theorem le14_line : 14 ≤ line := by decide
@[simp] theorem le15_line : 15 ≤ line := by decide
@[simp] theorem le16_line : 16 ≤ line := by decide
@[simp] theorem le17_line : 17 ≤ line := by decide
@[simp] theorem le18_line : 18 ≤ line := by decide
@[simp] theorem le19_line : 19 ≤ line := by decide
@[simp] theorem le20_line : 20 ≤ line := by decide
@[simp] theorem le21_line : 21 ≤ line := by decide
@[simp] theorem le22_line : 22 ≤ line := by decide
@[simp] theorem le23_line : 23 ≤ line := by decide
@[simp] theorem le24_line : 24 ≤ line := by decide
@[simp] theorem le25_line : 25 ≤ line := by decide
@[simp] theorem le26_line : 26 ≤ line := by decide
@[simp] theorem le27_line : 27 ≤ line := by decide
@[simp] theorem le28_line : 28 ≤ line := by decide
@[simp] theorem le29_line : 29 ≤ line := by decide
@[simp] theorem le30_line : 30 ≤ line := by decide
@[simp] theorem le31_line : 31 ≤ line := by decide
@[simp] theorem le32_line : 32 ≤ line := by decide
theorem le_line {n : Nat} (h : n ≤ 16777216) : n ≤ line := h
@[simp] theorem sub_lst {ds : List D} {i : Int} : subD st (.lst ds) (.int i) = L2.atI ds i := (rfl)
@[simp] theorem sub_tup {ds : List D} {i : Int} : subD st (.tup ds) (.int i) = L2.atI ds i := (rfl)
@[simp] theorem slc_lst {ds : List D} {l h : Option Int} : slcD st (.lst ds) l h = some (.lst (cutL ds l h)) := (rfl)
theorem qcutL_map {α β : Type} {f : α → β} {xs : List α} {l h : Option Int} : cutL (xs.map f) l h = (cutL xs l h).map f := by
  unfold cutL
  rw [List.length_map, List.map_take, List.map_drop]
@[simp] theorem cutL_tail {α : Type} {xs : List α} {k : Nat} : cutL xs (some (k : Int)) none = xs.drop k := by
  unfold cutL
  rw [HT.sIx_nat, HT.sIx_none]
  by_cases h : k ≤ xs.length
  · rw [Nat.min_eq_left h, List.take_of_length_le (by rw [List.length_drop]; exact Nat.le_refl _)]
  · rw [Nat.min_eq_right (by omega), List.drop_of_length_le (Nat.le_refl _), List.drop_of_length_le (by omega), List.take_nil]
@[simp] theorem cutL_head {α : Type} {xs : List α} {k : Nat} : cutL xs none (some (k : Int)) = xs.take k := by
  unfold cutL
  rw [HT.sIx_nat, HT.sIx_none, Nat.sub_zero, List.drop_zero]
  by_cases h : k ≤ xs.length
  · rw [Nat.min_eq_left h]
  · rw [Nat.min_eq_right (by omega), List.take_of_length_le (Nat.le_refl _), List.take_of_length_le (by omega)]
@[simp] theorem cutL_tailS {α : Type} {xs : List α} {k : Nat} : cutL xs (some ((k : Int) + 1)) none = xs.drop (k + 1) := cutL_tail (k := k + 1)
@[simp] theorem cutL_tail1 {α : Type} {xs : List α} : cutL xs (some 1) none = xs.drop 1 := cutL_tail (k := 1)
@[simp] theorem bin_II {op : Bo} {i j : Int} : binD st op (.int i) (.int j) = binI op i j := (rfl)
@[simp] theorem bi_add {i j : Int} : binI .add i j = some (.int (i + j)) := (rfl)
@[simp] theorem bi_sub {i j : Int} : binI .sub i j = some (.int (i - j)) := (rfl)
@[simp] theorem bi_mod {i j : Int} (h : 0 < j) : binI .mod i j = some (.int (i % j)) := if_pos h
@[simp] theorem bi_fdv {i j : Int} (h : 0 < j) (h2 : j < 1073741824) : binI .fdv i j = some (.int (i / j)) := if_pos (by simp [h, h2])
@[simp] theorem bi_mul {i j : Int} (h : (-(2 ^ 64) < i ∧ i < 2 ^ 64) ∨ (-(2 ^ 64) < j ∧ j < 2 ^ 64)) : binI .mul i j = some (.int (i * j)) := if_pos (by simpa [okMul] using h)
theorem bin_SS {x y : Str} (h : x.length + y.length ≤ line) : binD st .add (.str x) (.str y) = some (.str (x ++ y)) := if_pos h
theorem bin_LL {x y : List D} (h : x.length + y.length ≤ line) : binD st .add (.lst x) (.lst y) = some (.lst (x ++ y)) := if_pos h
@[simp] theorem set_cel {k : Nat} {i : Int} {d : D} {ds : List D} (h : st[k]? = some (.lst ds)) : stiD st (.cel k) (.int i) d = (L2.ixN ds.length i).map fun n => st.set k (.lst (ds.set n d)) := by
  show (match st[k]? with | some (.lst ds) => (L2.ixN ds.length i).map fun n => st.set k (.lst (ds.set n d)) | _ => none) = _
  rw [h]
theorem app_cel {k : Nat} {d : D} {ds : List D} (h : st[k]? = some (.lst ds)) (hl : ds.length < line) : metD st .append (.cel k) [d] = some (.non, st.set k (.lst (ds ++ [d]))) := by
  show (match st[k]? with | some (.lst ds) => if ds.length < line then some (D.non, st.set k (.lst (ds ++ [d]))) else none | _ => none) = _
  rw [h]
  exact if_pos hl
@[simp] theorem items_cel {k : Nat} {ds : List D} (h : st[k]? = some (.lst ds)) : items st (.cel k) = some ds := by
  show (match st[k]? with | some (.lst ds) => some ds | _ => none) = _
  rw [h]
@[simp] theorem len_cel {k : Nat} {ds : List D} (h : st[k]? = some (.lst ds)) : lenD st (.cel k) = some ds.length := by
  show (match st[k]? with | some (.lst ds) => some ds.length | _ => none) = _
  rw [h]
@[simp] theorem sub_cel {k : Nat} {i : Int} {ds : List D} (h : st[k]? = some (.lst ds)) : subD st (.cel k) (.int i) = L2.atI ds i := by
  show (items st (.cel k)).bind (fun xs => L2.atI xs i) = _
  rw [items_cel h]
  rfl
@[simp] theorem mt_app {x : D} : metTy st .append x = (items st x).isSome := (rfl)
@[simp] theorem mt_popAt {x : D} : metTy st .popAt x = (items st x).isSome := (rfl)
@[simp] theorem mt_split {z : Str} : metTy st .split (.str z) = true := (rfl)
@[simp] theorem mt_join {z : Str} : metTy st .join (.str z) = true := (rfl)
theorem split_str {z b : Str} (hb : 0 < b.length) (hz : z.length + 2 ≤ line) : metD st .split (.str z) [.str b] = some (.lst ((Txt.split z b).map .str), st) := if_pos (by simp [hb, hz])
theorem join_strs {z : Str} {x : D} {ys : List Str} (h : (items st x).bind strsD = some ys) (hl : (ys.map Str.length).sum + ys.length * z.length ≤ line) : metD st .join (.str z) [x] = some (.str (Txt.join z ys), st) := by
  show (match (items st x).bind strsD with | some ys => if (ys.map Str.length).sum + ys.length * z.length ≤ line then some (D.str (Txt.join z ys), st) else none | none => none) = _
  rw [h]
  exact if_pos hl
end
/-! ### a for that always goes through -/
/-- a turn goes through, and then it holds -/
def E.on (r : E) (P : Sl → Store → Prop) : Prop := match r with
  | .nx ρ st => P ρ st
  | .ct ρ st => P ρ st
  | _ => False
@[simp] theorem on_nx {ρ : Sl} {st : Store} {P : Sl → Store → Prop} : (E.nx ρ st).on P = P ρ st := (rfl)
@[simp] theorem on_ct {ρ : Sl} {st : Store} {P : Sl → Store → Prop} : (E.ct ρ st).on P = P ρ st := (rfl)
@[simp] theorem on_ite {p : Prop} [Decidable p] {a b : E} {P : Sl → Store → Prop} : (if p then a else b).on P = if p then a.on P else b.on P := by split <;> rfl
theorem on_turn {r : E} {P : Sl → Store → Prop} {k : Sl → Store → E} (h : r.on P) : ∃ ρ st, P ρ st ∧ r.turn k = k ρ st := by
  cases r <;> first | exact h.elim | exact ⟨_, _, h, rfl⟩
theorem for_fold {α S : Type} {enc : α → D} {w : Walk} {f : D → Sl → Store → E} (Inv : Nat → S → Sl → Store → Prop) (step : S → α → S) {n : Nat} (hs : ∀ i s ρ st, Inv i s ρ st → still w st = true) :
    ∀ (xs : List α) (i : Nat) (s : S) (ρ : Sl) (st : Store), i + xs.length ≤ n → (∀ x ∈ xs, ∀ i s ρ st, i < n → Inv i s ρ st → (f (enc x) ρ st).on (Inv (i + 1) (step s x))) → Inv i s ρ st → ∃ ρ' st', forGo w f (xs.map enc) ρ st = .nx ρ' st' ∧ Inv (i + xs.length) (xs.foldl step s) ρ' st'
  | [], i, s, ρ, st, _, _, h => ⟨ρ, st, for_nil (hs _ _ _ _ h), h⟩
  | x :: xs, i, s, ρ, st, hn, hf, h => by
    have hn : i + (xs.length + 1) ≤ n := hn
    obtain ⟨ρ1, st1, h1, e1⟩ := on_turn (hf x List.mem_cons_self i s ρ st (by omega) h)
    obtain ⟨ρ2, st2, e2, h2⟩ := for_fold Inv step hs xs (i + 1) (step s x) ρ1 st1 (by omega) (fun y hy => hf y (List.mem_cons_of_mem _ hy)) h1
    refine ⟨ρ2, st2, ?_, ?_⟩
    · rw [List.map_cons, for_cons (hs _ _ _ _ h), e1]
      exact e2
    · rw [List.length_cons, List.foldl_cons, show i + (xs.length + 1) = i + 1 + xs.length by omega]
      exact h2
@[simp] theorem still_non {ds : List D} {st : Store} : still { its := ds } st = true := (rfl)
/-- a turn goes on, or tells -/
def E.onX (r : E) (P : Sl → Store → Prop) (Q : D → Prop) : Prop := match r with
  | .nx ρ st => P ρ st
  | .ct ρ st => P ρ st
  | .rt d _ => Q d
  | _ => False
@[simp] theorem onX_nx {ρ : Sl} {st : Store} {P : Sl → Store → Prop} {Q : D → Prop} : (E.nx ρ st).onX P Q = P ρ st := (rfl)
@[simp] theorem onX_ct {ρ : Sl} {st : Store} {P : Sl → Store → Prop} {Q : D → Prop} : (E.ct ρ st).onX P Q = P ρ st := (rfl)
@[simp] theorem onX_rt {d : D} {st : Store} {P : Sl → Store → Prop} {Q : D → Prop} : (E.rt d st).onX P Q = Q d := (rfl)
@[simp] theorem onX_ite {p : Prop} [Decidable p] {a b : E} {P : Sl → Store → Prop} {Q : D → Prop} : (if p then a else b).onX P Q = if p then a.onX P Q else b.onX P Q := by split <;> rfl
def okE' {ε S : Type} (o : Except ε S) (P : S → Prop) : Prop := match o with
  | .ok s => P s
  | .error _ => False
def erE' {ε S : Type} (o : Except ε S) (P : ε → Prop) : Prop := match o with
  | .ok _ => False
  | .error e => P e
@[simp] theorem okE'_ok {ε S : Type} {s : S} {P : S → Prop} : okE' (.ok s : Except ε S) P = P s := (rfl)
@[simp] theorem okE'_er {ε S : Type} {e : ε} {P : S → Prop} : okE' (.error e : Except ε S) P = False := (rfl)
@[simp] theorem erE'_ok {ε S : Type} {s : S} {P : ε → Prop} : erE' (.ok s : Except ε S) P = False := (rfl)
@[simp] theorem erE'_er {ε S : Type} {e : ε} {P : ε → Prop} : erE' (.error e : Except ε S) P = P e := (rfl)
theorem for_out {ε α S : Type} {enc : α → D} {w : Walk} {f : D → Sl → Store → E} (Inv : S → Sl → Store → Prop) (err : ε → D) (step : S → α → Except ε S) (hs : ∀ s ρ st, Inv s ρ st → still w st = true) :
    ∀ (xs : List α) (s : S) (ρ : Sl) (st : Store), (∀ x ∈ xs, ∀ s ρ st, Inv s ρ st → (f (enc x) ρ st).onX (fun ρ' st' => okE' (step s x) fun s' => Inv s' ρ' st') (fun d => erE' (step s x) fun e => d = err e)) → Inv s ρ st →
      (∃ s' ρ' st', xs.foldlM step s = .ok s' ∧ forGo w f (xs.map enc) ρ st = .nx ρ' st' ∧ Inv s' ρ' st') ∨ (∃ e st', xs.foldlM step s = .error e ∧ forGo w f (xs.map enc) ρ st = .rt (err e) st')
  | [], s, ρ, st, _, h => .inl ⟨s, ρ, st, rfl, for_nil (hs _ _ _ h), h⟩
  | x :: xs, s, ρ, st, hf, h => by
    have h1 := hf x List.mem_cons_self s ρ st h
    rw [List.map_cons, for_cons (hs _ _ _ h), List.foldlM_cons]
    cases e : step s x with
    | ok s' =>
      rw [e] at h1
      simp only [okE'_ok, erE'_ok] at h1
      have ih := fun ρ' st' h' => for_out Inv err step hs xs s' ρ' st' (fun y hy => hf y (List.mem_cons_of_mem _ hy)) h'
      revert h1
      cases f (enc x) ρ st <;> intro h1
      · exact ih _ _ h1
      · exact h1.elim
      · exact h1.elim
      · exact ih _ _ h1
      · exact h1.elim
      · exact h1.elim
    | error e' =>
      rw [e] at h1
      simp only [okE'_er, erE'_er] at h1
      revert h1
      cases f (enc x) ρ st <;> intro h1 <;> first | exact h1.elim | exact .inr ⟨e', _, rfl, congrArg (fun d => E.rt d _) h1⟩
@[simp] theorem nonB_non : nonB .non = true := (rfl)
@[simp] theorem nonB_bl {b : Bool} : nonB (.bl b) = false := (rfl)
@[simp] theorem nonB_int {i : Int} : nonB (.int i) = false := (rfl)
@[simp] theorem nonB_str {z : Str} : nonB (.str z) = false := (rfl)
@[simp] theorem nonB_lst {ds : List D} : nonB (.lst ds) = false := (rfl)
@[simp] theorem nonB_tup {ds : List D} : nonB (.tup ds) = false := (rfl)
@[simp] theorem nonB_exv {k : Nat} {d : D} : nonB (.exv k d) = false := (rfl)
@[simp] theorem nonB_cel {k : Nat} : nonB (.cel k) = false := (rfl)
@[simp] theorem blB_non {b : Bool} : blB b .non = false := (rfl)
@[simp] theorem blB_bl {b a : Bool} : blB b (.bl a) = decide (a = b) := (rfl)
@[simp] theorem blB_int {b : Bool} {i : Int} : blB b (.int i) = false := (rfl)
@[simp] theorem blB_str {b : Bool} {z : Str} : blB b (.str z) = false := (rfl)
@[simp] theorem blB_lst {b : Bool} {ds : List D} : blB b (.lst ds) = false := (rfl)
@[simp] theorem blB_tup {b : Bool} {ds : List D} : blB b (.tup ds) = false := (rfl)
@[simp] theorem eq_00 {st : Store} : eqD st (.lst []) (.lst []) = some true := by
  have := eq_II (st := st) (a := 0) (b := 0)
  exact eq_L0 (a := [])
theorem eqvAll_nil {xs : List PyData} : PyData.eqvAll xs [] = xs.isEmpty := by cases xs <;> simp [PyData.eqvAll]
/-- a list that is none or not -/
theorem eq_nil {α : Type} [DecidableEq α] {st : Store} {xs : List α} {f : α → D} (h : ∀ x ∈ xs, pureD (f x) = true ∧ (toP (f x)).canLay0 = true ∧ (toP (f x)).depth ≤ 60) : eqD st (.lst (xs.map f)) (.lst []) = some (decide (xs = [])) := by
  have hp : pureD (.lst (xs.map f)) = true := by
    rw [pu_lst, pureDs_all, List.all_eq_true]
    intro d hd
    obtain ⟨x, hx, rfl⟩ := List.mem_map.mp hd
    exact (h x hx).1
  unfold eqD
  rw [snap_pure hp, snap_pure (d := .lst []) (by simp)]
  have hs : SeqAt.shaped (toP (.lst (xs.map f))) = true := by
    unfold SeqAt.shaped
    rw [toP_lst, Bool.and_eq_true, decide_eq_true_eq]
    constructor
    · simp only [PyData.canLay0]
      refine canAll_of _ fun y hy => ?_
      obtain ⟨d, hd, rfl⟩ := List.mem_map.mp hy
      obtain ⟨x, hx, rfl⟩ := List.mem_map.mp hd
      exact (h x hx).2.1
    · simp only [PyData.depth]
      refine Nat.le_trans (Nat.succ_le_succ (depthAll_le (n := 60) _ fun y hy => ?_)) (by decide)
      obtain ⟨d, hd, rfl⟩ := List.mem_map.mp hy
      obtain ⟨x, hx, rfl⟩ := List.mem_map.mp hd
      exact (h x hx).2.2
  have h0 : SeqAt.shaped (toP (.lst [])) = true := by rw [toP_lst]; rfl
  show (if _ then _ else _) = _
  rw [hs, h0]
  simp only [toP_lst, List.map_nil, PyData.eqv, eqvAll_nil]
  cases xs <;> simp
theorem str_nice {z : Str} (h : okZ z) : pureD (.str z) = true ∧ (toP (.str z)).canLay0 = true ∧ (toP (.str z)).depth ≤ 60 := ⟨pu_str, Enc.can (α := Str) z h, Nat.le_trans (Enc.depth (α := Str) z) (by decide)⟩
theorem int_nice {i : Int} : pureD (.int i) = true ∧ (toP (.int i)).canLay0 = true ∧ (toP (.int i)).depth ≤ 60 := ⟨pu_int, Enc.can (α := Int) i trivial, Nat.le_trans (Enc.depth (α := Int) i) (by decide)⟩
theorem lot_nice {l : List Int} : pureD (.lst (l.map .int)) = true ∧ (toP (.lst (l.map .int))).canLay0 = true ∧ (toP (.lst (l.map .int))).depth ≤ 60 := ⟨Enc.pur (α := List Int) l, Enc.can (α := List Int) l (okL l), Nat.le_trans (Enc.depth (α := List Int) l) (by decide)⟩
@[simp] theorem lcR_ifn' {α : Type} {p : α → Prop} [∀ x, Decidable (p x)] {F : α → D} {xs : List α} {st : Store} (hl : xs.length ≤ line) : lcR (fun x st => if p x then .ok none st else .ok (some (F x)) st) xs st = .ok (.lst ((xs.filter fun x => !decide (p x)).map F)) st := lcR_if (fun x => !decide (p x)) F hl fun x _ => by by_cases h : p x <;> simp [h]
theorem lcGo_pureM {α : Type} {enc : α → D} {w : Walk} {f : D → Store → R (Option D)} {g : α → Option D} {st : Store} (hw : still w st = true) : ∀ (ds : List α) (acc : List D), (∀ d ∈ ds, f (enc d) st = .ok (g d) st) → acc.length + ds.length ≤ line → lcGo w f (ds.map enc) acc st = .ok (acc ++ ds.filterMap g) st
  | [], acc, _, _ => by
    rw [List.map_nil, lcGo, if_pos hw]
    simp
  | d :: ds, acc, h, hl => by
    rw [List.map_cons, lcGo, if_pos hw, h d List.mem_cons_self]
    have hl : acc.length + (ds.length + 1) ≤ line := hl
    have h' : ∀ e ∈ ds, f (enc e) st = .ok (g e) st := fun e he => h e (List.mem_cons_of_mem _ he)
    cases hg : g d with
    | none =>
      rw [R.bind_ok]
      show lcGo w f (ds.map enc) acc st = _
      rw [lcGo_pureM hw ds acc h' (by omega), List.filterMap_cons_none hg]
    | some y =>
      rw [R.bind_ok]
      show (if acc.length < line then lcGo w f (ds.map enc) (acc ++ [y]) st else .bad) = _
      rw [if_pos (by omega), lcGo_pureM hw ds (acc ++ [y]) h' (by rw [List.length_append]; simp only [List.length_cons, List.length_nil]; omega), List.filterMap_cons_some hg, List.append_assoc]
      rfl
theorem fm_if {α β : Type} {p : α → Bool} {F : α → β} : ∀ xs : List α, xs.filterMap (fun x => if p x then some (F x) else none) = (xs.filter p).map F
  | [] => rfl
  | a :: r => by
    rw [List.filterMap_cons, fm_if r, List.filter_cons]
    cases p a <;> rfl
/-- a comprehension over a list in a cell -/
theorem lcW_if {α : Type} {enc : α → D} {w : Walk} {f : D → Store → R (Option D)} {st : Store} {xs : List α} (hi : w.its = xs.map enc) (hw : still w st = true) (p : α → Bool) (F : α → D) (hl : xs.length ≤ line) (h : ∀ x ∈ xs, f (enc x) st = if p x then .ok (some (F x)) st else .ok none st) : lcW f w st = .ok (.lst ((xs.filter p).map F)) st := by
  unfold lcW
  rw [hi, lcGo_pureM (g := fun x => if p x then some (F x) else none) hw xs [] (fun x hx => by rw [h x hx]; split <;> rfl) (by simpa using hl), fm_if]
  rfl
def orO : Option Bool → Option Bool → Option Bool
  | some a, some b => some (a || b)
  | _, _ => none
@[simp] theorem orO_some {a b : Bool} : orO (some a) (some b) = some (a || b) := (rfl)
section
variable {st : Store} {t : Ty}
@[simp] theorem tys_nil {d : D} : tysIs st [] d = some false := (rfl)
@[simp] theorem tys_cons {ts : List Ty} {d : D} : tysIs st (t :: ts) d = orO (tyIs st t d) (tysIs st ts d) := (rfl)
@[simp] theorem ty_non : tyIs st t .non = some false := (rfl)
@[simp] theorem ty_bl {b : Bool} : tyIs st t (.bl b) = some (match t with | .int => true | .bool => true | _ => false) := (rfl)
@[simp] theorem ty_int {i : Int} : tyIs st t (.int i) = some (match t with | .int => true | _ => false) := (rfl)
@[simp] theorem qty_str {z : Str} : tyIs st t (.str z) = some (match t with | .str => true | _ => false) := (rfl)
@[simp] theorem ty_lst {ds : List D} : tyIs st t (.lst ds) = some (match t with | .list => true | _ => false) := (rfl)
@[simp] theorem ty_tup {ds : List D} : tyIs st t (.tup ds) = some (match t with | .tuple => true | _ => false) := (rfl)
@[simp] theorem ty_dic {ds : List (L2.Key × D)} : tyIs st t (.dic ds) = some (match t with | .dict => true | _ => false) := (rfl)
@[simp] theorem isi_bl {b : Bool} : isiD st t (.bl b) = (match t with | .exc k => none | .ver => none | .int => some true | .bool => some true | _ => some false) := by cases t <;> rfl
@[simp] theorem isi_non : isiD st t .non = (match t with | .exc k => none | .ver => none | _ => some false) := by cases t <;> rfl
@[simp] theorem isi_tup {ds : List D} : isiD st t (.tup ds) = (match t with | .exc k => none | .ver => none | .tuple => some true | _ => some false) := by cases t <;> rfl
@[simp] theorem isi_dic {ds : List (L2.Key × D)} : isiD st t (.dic ds) = (match t with | .exc k => none | .ver => none | .dict => some true | _ => some false) := by cases t <;> rfl
end
theorem allB_true {α : Type} {xs : List α} : allB (xs.map fun _ => true) = true := by
  rw [allB_map]
  simp
theorem get_cel {st : Store} {k : Nat} {j : Nat} {ds : List D} (h : st[k]? = some (.lst ds)) (hl : ds.length ≤ line) : getD st (.cel k) (.int (j : Int)) = ds[j]? := by
  show (if (0 : Int) ≤ (j : Int) then (match st[k]? with | some (.lst ds) => if ds.length ≤ line then ds[(j : Int).toNat]? else none | _ => none) else none) = _
  rw [if_pos (by omega), h]
  exact if_pos hl
theorem ixN_lt {n : Nat} {i : Nat} (h : i < n) : L2.ixN n (i : Int) = some i := by
  unfold L2.ixN
  rw [if_pos (by omega), if_pos (by omega)]
  rfl
/-- a comprehension while the store changes -/
theorem lcP_st {α : Type} {f : α → Store → R (Option D)} (Inv : Nat → Store → Prop) (Q : D → Prop) {n : Nat} : ∀ (xs : List α) (acc : List D) (i : Nat) (st : Store), (i + xs.length ≤ n) → (∀ x ∈ xs, ∀ i st, i < n → Inv i st → ∃ o st', f x st = .ok o st' ∧ Inv (i + 1) st' ∧ ∀ y, o = some y → Q y) → Inv i st → acc.length + xs.length ≤ line → (∀ y ∈ acc, Q y) →
    ∃ ys st', lcP f xs acc st = .ok ys st' ∧ Inv (i + xs.length) st' ∧ (∀ y ∈ ys, Q y) ∧ ys.length ≤ acc.length + xs.length
  | [], acc, i, st, _, _, h, _, hq => ⟨acc, st, rfl, h, hq, Nat.le_refl _⟩
  | x :: xs, acc, i, st, hn, hf, h, hl, hq => by
    have hn : i + (xs.length + 1) ≤ n := hn
    have hl : acc.length + (xs.length + 1) ≤ line := hl
    obtain ⟨o, st1, e1, h1, q1⟩ := hf x List.mem_cons_self i st (by omega) h
    have hf' : ∀ x ∈ xs, ∀ i st, i < n → Inv i st → ∃ o st', f x st = .ok o st' ∧ Inv (i + 1) st' ∧ ∀ y, o = some y → Q y := fun y hy => hf y (List.mem_cons_of_mem _ hy)
    rw [lcP, e1, R.bind_ok]
    cases o with
    | none =>
      obtain ⟨ys, st2, e2, h2, q2, l2⟩ := lcP_st Inv Q xs acc (i + 1) st1 (by omega) hf' h1 (by omega) hq
      refine ⟨ys, st2, e2, ?_, q2, ?_⟩
      · rw [List.length_cons, show i + (xs.length + 1) = i + 1 + xs.length by omega]; exact h2
      · rw [List.length_cons]; omega
    | some y =>
      obtain ⟨ys, st2, e2, h2, q2, l2⟩ := lcP_st Inv Q xs (acc ++ [y]) (i + 1) st1 (by omega) hf' h1 (by simp; omega) (fun z hz => by
        rcases List.mem_append.mp hz with hz | hz
        · exact hq z hz
        · rw [List.mem_singleton.mp hz]; exact q1 y rfl)
      refine ⟨ys, st2, ?_, ?_, q2, ?_⟩
      · show (if acc.length < line then lcP f xs (acc ++ [y]) st1 else .bad) = _
        rw [if_pos (by omega)]; exact e2
      · rw [List.length_cons, show i + (xs.length + 1) = i + 1 + xs.length by omega]; exact h2
      · rw [List.length_append] at l2; simp at l2 ⊢; omega
/-- it comes to a value, of which P holds -/
def R.sat {α : Type} (r : R α) (P : α → Store → Prop) : Prop := match r with
  | .ok a st => P a st
  | _ => False
@[simp] theorem sat_ok {α : Type} {a : α} {st : Store} {P : α → Store → Prop} : (R.ok a st).sat P = P a st := (rfl)
theorem sat_ex {α : Type} {r : R α} {P : α → Store → Prop} (h : r.sat P) : ∃ a st, r = .ok a st ∧ P a st := by
  cases r <;> first | exact h.elim | exact ⟨_, _, rfl, h⟩
theorem lcR_st {α : Type} {f : α → Store → R (Option D)} (Inv : Nat → Store → Prop) (Q : D → Prop) {xs : List α} {st : Store} (hl : xs.length ≤ line) (h : Inv 0 st) (hf : ∀ x ∈ xs, ∀ i st, i < xs.length → Inv i st → (f x st).sat fun o st' => Inv (i + 1) st' ∧ ∀ y, o = some y → Q y) :
    (lcR f xs st).sat fun d st' => ∃ ys, d = .lst ys ∧ Inv xs.length st' ∧ (∀ y ∈ ys, Q y) ∧ ys.length ≤ xs.length := by
  obtain ⟨ys, st', e, h1, h2, h3⟩ := lcP_st Inv Q (n := xs.length) xs [] 0 st (by omega) (fun x hx i st hi h => by
    obtain ⟨o, st', e, h⟩ := sat_ex (hf x hx i st hi h)
    exact ⟨o, st', e, h⟩) h (by simpa using hl) (by simp)
  unfold lcR
  rw [e]
  exact ⟨ys, rfl, by simpa using h1, h2, by simpa using h3⟩
theorem exists_map {α β : Type} {f : α → β} {P : α → Prop} : ∀ ys : List β, (∀ y ∈ ys, ∃ x, y = f x ∧ P x) → ∃ xs : List α, ys = xs.map f ∧ ∀ x ∈ xs, P x
  | [], _ => ⟨[], rfl, by simp⟩
  | y :: ys, h => by
    obtain ⟨x, rfl, hx⟩ := h y List.mem_cons_self
    obtain ⟨xs, rfl, hxs⟩ := exists_map ys fun z hz => h z (List.mem_cons_of_mem _ hz)
    exact ⟨x :: xs, rfl, by simpa using ⟨hx, hxs⟩⟩
theorem pop_cel {st : Store} {k j : Nat} {ds : List D} (h : st[k]? = some (.lst ds)) (hl : ds.length ≤ line) (hj : j < ds.length) : metD st .popAt (.cel k) [.int (j : Int)] = some (ds[j], st.set k (.lst (ds.eraseIdx j))) := by
  show (match st[k]? with | some (.lst ds) => if ds.length ≤ line then (match L2.ixN ds.length (j : Int) with | some j => (ds[j]?).map fun y => (y, st.set k (.lst (ds.eraseIdx j))) | none => none) else none | _ => none) = _
  rw [h]
  show (if ds.length ≤ line then (match L2.ixN ds.length (j : Int) with | some j => (ds[j]?).map fun y => (y, st.set k (.lst (ds.eraseIdx j))) | none => none) else none) = _
  rw [if_pos hl, ixN_lt hj]
  simp [hj]
section
theorem set_app0 {α : Type} (l : List α) (a c x : α) : (l ++ [a, c]).set l.length x = l ++ [x, c] := by
  induction l with
  | nil => rfl
  | cons y l ih => exact congrArg (y :: ·) ih
theorem set_app1 {α : Type} (l : List α) (a c x : α) : (l ++ [a, c]).set (l.length + 1) x = l ++ [a, x] := by
  induction l with
  | nil => rfl
  | cons y l ih => exact congrArg (y :: ·) ih
theorem get_app1 {α : Type} (l : List α) (a c : α) : (l ++ [a, c])[l.length + 1]? = some c := by
  induction l with
  | nil => rfl
  | cons y l ih => simpa using ih
variable {p a c x : Cell} {tl : Store}
theorem two_a : (p :: (tl ++ [a, c]))[tl.length + 1]? = some a := by simp
theorem two_c : (p :: (tl ++ [a, c]))[tl.length + 1 + 1]? = some c := get_app1 (p :: tl) a c
theorem set_a : (p :: (tl ++ [a, c])).set (tl.length + 1) x = p :: (tl ++ [x, c]) := set_app0 (p :: tl) a c x
theorem set_c : (p :: (tl ++ [a, c])).set (tl.length + 1 + 1) x = p :: (tl ++ [a, x]) := set_app1 (p :: tl) a c x
end
@[simp] theorem mt_bits {st : Store} {i : Int} : metTy st .bits (.int i) = true := (rfl)
@[simp] theorem md_bits {st : Store} {i : Int} : metD st .bits (.int i) [] = some (.int (Builtin.Int.intBits i : Nat), st) := (rfl)
@[simp] theorem bl_sum {st : Store} {ds : List D} : bltD st .sum [.lst ds] = (intsD ds).map fun ns => .int ns.sum := (rfl)
@[simp] theorem bl_max2 {st : Store} {i j : Int} : bltD st .max2 [.int i, .int j] = some (.int (if j > i then j else i)) := (rfl)
@[simp] theorem bl_min2 {st : Store} {i j : Int} : bltD st .min2 [.int i, .int j] = some (.int (if j < i then j else i)) := (rfl)
/-- what else stands in the store stays -/
def Fix (g : Nat) (st st' : Store) : Prop := st.length ≤ st'.length ∧ ∀ k, k ≠ g → k < st.length → st'[k]? = st[k]?
theorem Fix.refl (g : Nat) (st : Store) : Fix g st st := ⟨Nat.le_refl _, fun _ _ _ => rfl⟩
theorem Fix.trans {g : Nat} {a b c : Store} (h : Fix g a b) (h' : Fix g b c) : Fix g a c := ⟨Nat.le_trans h.1 h'.1, fun k hk hl => (h'.2 k hk (Nat.lt_of_lt_of_le hl h.1)).trans (h.2 k hk hl)⟩
theorem Fix.set (g : Nat) (st : Store) (x : Cell) : Fix g st (st.set g x) := ⟨by simp, fun k hk _ => by rw [List.getElem?_set, if_neg (fun e => hk e.symm)]⟩
theorem Fix.app (g : Nat) (st : Store) (xs : List Cell) : Fix g st (st ++ xs) := ⟨by simp, fun k _ hl => by rw [List.getElem?_append_left hl]⟩
theorem lt_of_get {st : Store} {g : Nat} {x : Cell} (h : st[g]? = some x) : g < st.length := (List.getElem?_eq_some_iff.mp h).1
theorem get_set {st : Store} {g : Nat} {x : Cell} (y : Cell) (h : st[g]? = some x) : (st.set g y)[g]? = some y := by
  rw [List.getElem?_set, if_pos rfl, if_pos (lt_of_get h)]
/-! ### while -/
@[simp] theorem t_whl {c : Cxt} {ρ : Sl} {st : Store} {t : Ex} {b : Sms} : ex c (.whl t b) ρ st = whlGo (fun ρ st => (ev c t ρ st).bind fun x st => ofO (tb x) st) (exs c b) c.whl ρ st := by rw [ex]
theorem whl_fold {t : Sl → Store → R Bool} {f : Sl → Store → E} (Inv : Nat → Sl → Store → Prop) (h1 : ∀ i ρ st, Inv (i + 1) ρ st → t ρ st = .ok true st ∧ (f ρ st).on (Inv i)) (h0 : ∀ ρ st, Inv 0 ρ st → t ρ st = .ok false st) :
    ∀ (i n : Nat) (ρ : Sl) (st : Store), i < n → Inv i ρ st → ∃ ρ' st', whlGo t f n ρ st = .nx ρ' st' ∧ Inv 0 ρ' st'
  | 0, n + 1, ρ, st, _, h => by
    refine ⟨ρ, st, ?_, h⟩
    rw [whlGo, h0 ρ st h]
    rfl
  | i + 1, n + 1, ρ, st, hn, h => by
    obtain ⟨e, ho⟩ := h1 i ρ st h
    rw [whlGo, e]
    simp only [R.thn_ok, if_true]
    revert ho
    cases f ρ st <;> intro ho
    · exact whl_fold Inv h1 h0 i n _ _ (by omega) ho
    · exact ho.elim
    · exact ho.elim
    · exact whl_fold Inv h1 h0 i n _ _ (by omega) ho
    · exact ho.elim
    · exact ho.elim
theorem eq_C0 {α : Type} [DecidableEq α] {st : Store} {k : Nat} {xs : List α} {f : α → D} (hk : st[k]? = some (.lst (xs.map f))) (h : ∀ x ∈ xs, pureD (f x) = true ∧ (toP (f x)).canLay0 = true ∧ (toP (f x)).depth ≤ 60) : eqD st (.cel k) (.lst []) = some (decide (xs = [])) := by
  have hp : pureDs (xs.map f) = true := by
    rw [pureDs_all, List.all_eq_true]
    intro d hd
    obtain ⟨x, hx, rfl⟩ := List.mem_map.mp hd
    exact (h x hx).1
  have e := eq_nil (st := st) h
  unfold eqD at e ⊢
  rw [snap_cel hk hp]
  rw [snap_pure (d := .lst (xs.map f)) (by rw [pu_lst]; exact hp)] at e
  exact e
section
variable {p a c x : Cell} {tl : Store}
theorem three_a : (tl ++ [a, c])[tl.length]? = some a := by simp
theorem three_c : (tl ++ [a, c])[tl.length + 1]? = some c := get_app1 tl a c
theorem s3_a : (tl ++ [a, c]).set tl.length x = tl ++ [x, c] := set_app0 tl a c x
theorem s3_c : (tl ++ [a, c]).set (tl.length + 1) x = tl ++ [a, x] := set_app1 tl a c x
end
theorem Fix.setBig {g k : Nat} {a b : Store} (h : Fix g a b) (hk : a.length ≤ k) (y : Cell) : Fix g a (b.set k y) := ⟨by rw [List.length_set]; exact h.1, fun j hj hl => by rw [List.getElem?_set, if_neg (by omega)]; exact h.2 j hj hl⟩
theorem get_ne {st : Store} {k j : Nat} {o : Option Cell} (h : st[k]? = o) (hj : j ≠ k) (y : Cell) : (st.set j y)[k]? = o := by
  rw [List.getElem?_set, if_neg hj]
  exact h
theorem eraseIdx_map {α β : Type} {f : α → β} : ∀ (xs : List α) (j : Nat), (xs.map f).eraseIdx j = (xs.eraseIdx j).map f
  | [], j => by simp
  | a :: r, 0 => by simp
  | a :: r, j + 1 => by simp [eraseIdx_map r j]
@[simp] theorem qfrM {l : List (List Int)} : freeDs (l.map fun l => D.lst (l.map .int)) = true := fr_map fun x => by rw [fr_lst]; exact fr_map fun _ => fr_int
@[simp] theorem puM {l : List (List Int)} : pureDs (l.map fun l => D.lst (l.map .int)) = true := pu_map fun x => by rw [pu_lst]; exact pu_map fun _ => pu_int
@[simp] theorem frN {l : List Nat} : freeDs (l.map fun (k : Nat) => D.int k) = true := fr_map fun _ => fr_int
@[simp] theorem puN {l : List Nat} : pureDs (l.map fun (k : Nat) => D.int k) = true := pu_map fun _ => pu_int
/-- a turn goes on, or tells, with the store -/
def E.onY (r : E) (P : Sl → Store → Prop) (Q : D → Store → Prop) : Prop := match r with
  | .nx ρ st => P ρ st
  | .ct ρ st => P ρ st
  | .rt d st => Q d st
  | _ => False
@[simp] theorem onY_nx {ρ : Sl} {st : Store} {P : Sl → Store → Prop} {Q : D → Store → Prop} : (E.nx ρ st).onY P Q = P ρ st := (rfl)
@[simp] theorem onY_ct {ρ : Sl} {st : Store} {P : Sl → Store → Prop} {Q : D → Store → Prop} : (E.ct ρ st).onY P Q = P ρ st := (rfl)
@[simp] theorem onY_rt {d : D} {st : Store} {P : Sl → Store → Prop} {Q : D → Store → Prop} : (E.rt d st).onY P Q = Q d st := (rfl)
@[simp] theorem onY_ite {p : Prop} [Decidable p] {a b : E} {P : Sl → Store → Prop} {Q : D → Store → Prop} : (if p then a else b).onY P Q = if p then a.onY P Q else b.onY P Q := by split <;> rfl
theorem for_rel {α : Type} {enc : α → D} {w : Walk} {f : D → Sl → Store → E} (Inv : Nat → Sl → Store → Prop) (Q : D → Store → Prop) {n : Nat} (hs : ∀ i ρ st, Inv i ρ st → still w st = true) :
    ∀ (xs : List α) (i : Nat) (ρ : Sl) (st : Store), i + xs.length ≤ n → (∀ x ∈ xs, ∀ i ρ st, i < n → Inv i ρ st → (f (enc x) ρ st).onY (Inv (i + 1)) Q) → Inv i ρ st →
      (∃ ρ' st', forGo w f (xs.map enc) ρ st = .nx ρ' st' ∧ Inv (i + xs.length) ρ' st') ∨ (∃ d st', forGo w f (xs.map enc) ρ st = .rt d st' ∧ Q d st')
  | [], i, ρ, st, _, _, h => .inl ⟨ρ, st, for_nil (hs _ _ _ h), h⟩
  | x :: xs, i, ρ, st, hn, hf, h => by
    have hn : i + (xs.length + 1) ≤ n := hn
    have h1 := hf x List.mem_cons_self i ρ st (by omega) h
    rw [List.map_cons, for_cons (hs _ _ _ h), List.length_cons, show i + (xs.length + 1) = i + 1 + xs.length by omega]
    have ih := fun ρ' st' h' => for_rel Inv Q hs xs (i + 1) ρ' st' (by omega) (fun y hy => hf y (List.mem_cons_of_mem _ hy)) h'
    revert h1
    cases f (enc x) ρ st <;> intro h1
    · exact ih _ _ h1
    · exact .inr ⟨_, _, rfl, h1⟩
    · exact h1.elim
    · exact ih _ _ h1
    · exact h1.elim
    · exact h1.elim
theorem mapN (l : List Nat) : (l.map fun (j : Nat) => D.int j) = (l.map fun (j : Nat) => (j : Int)).map D.int := by rw [List.map_map]; rfl
@[simp] theorem in_KN {st : Store} {k : Nat} {l : List Nat} : inD st (.int (k : Int)) (.lst (l.map fun (j : Nat) => D.int j)) = some (decide (k ∈ l)) := by
  rw [mapN, in_IL]
  congr 1
  rw [decide_eq_decide]
  simp only [List.mem_map]
  exact ⟨fun ⟨a, h, e⟩ => by rw [← show a = k by omega]; exact h, fun h => ⟨k, h, rfl⟩⟩
@[simp] theorem eq_N0 {st : Store} {l : List Nat} : eqD st (.lst (l.map fun (j : Nat) => D.int j)) (.lst []) = some (decide (l = [])) := eq_nil fun _ _ => int_nice
@[simp] theorem eq_NN {st : Store} {l m : List Nat} : eqD st (.lst (l.map fun (j : Nat) => D.int j)) (.lst (m.map fun (j : Nat) => D.int j)) = some (decide (l = m)) := by
  rw [mapN, mapN, eq_LL]
  congr 1
  rw [decide_eq_decide]
  refine ⟨fun e => ?_, fun e => by rw [e]⟩
  have := congrArg (fun z => z.map Int.toNat) e
  simpa [List.map_map, Function.comp_def] using this
theorem nodup_lt : ∀ (n : Nat) (l : List Nat), l.Nodup → (∀ x ∈ l, x < n) → l.length ≤ n
  | 0, l, _, h => by
    cases l with
    | nil => simp
    | cons a r => exact absurd (h a List.mem_cons_self) (by omega)
  | n + 1, l, hd, h => by
    by_cases hn : n ∈ l
    · have h1 := nodup_lt n (l.erase n) (hd.erase n) (fun x hx => by
        have h2 := (hd.mem_erase_iff).mp hx
        have := h x h2.2
        have := h2.1
        omega)
      rw [List.length_erase_of_mem hn] at h1
      omega
    · have := nodup_lt n l hd (fun x hx => by
        have := h x hx
        have : x ≠ n := fun e => hn (e ▸ hx)
        omega)
      omega
theorem on_of {r : E} {P : Sl → Store → Prop} (h : ∃ ρ st, r = .nx ρ st ∧ P ρ st) : r.on P := by
  obtain ⟨ρ, st, e, h⟩ := h
  rw [e]
  exact h
@[simp] theorem eq_BB {st : Store} {a b : Bool} : eqD st (.bl a) (.bl b) = some (decide (a = b)) := by cases a <;> cases b <;> rfl
theorem isi_cel {st : Store} {k : Nat} {ds : List D} {t : Ty} (h : st[k]? = some (.lst ds)) : isiD st t (.cel k) = (match t with | .exc k => none | .ver => none | .list => some true | _ => some false) := by
  cases t <;> first | rfl | (show (match st[k]? with | some (.lst _) => _ | some (.dic _) => _ | _ => none) = _; rw [h])
end MP
end
section
set_option maxRecDepth 100000
set_option maxHeartbeats 4000000
/-! MPStr: texts, their lengths, their signs. -/
namespace MP
open PySem PySem.Builtin.Str
/-- a text as it may be handed on -/
structure Tx (N : Nat) (z : Str) : Prop where
  len : z.length ≤ N
  ok : okZ z
theorem ok_lit {s : String} (h : PyData.strOk (Str.ofString s) = true) : okZ (Str.ofString s) := h
theorem ok_of {z : Str} (h : PyData.strOk z = true) : okZ z := h
theorem qokS {s : String} (h : (PyData.strOk (Str.ofString s)) = true) : okZ (Str.ofString s) := h
theorem split_pos (z b : Str) : ∃ a r, Txt.split z b = a :: r := by
  unfold Txt.split
  split
  · exact ⟨_, _, rfl⟩
  · split
    · exact ⟨_, _, rfl⟩
    · unfold partsBetween
      cases occurrences z b 0 z.length (z.length + 1) with
      | nil => exact ⟨_, _, rfl⟩
      | cons i r => exact ⟨_, _, rfl⟩
theorem sub_len (z : Str) (i j : Nat) : (strSub z i j).length ≤ z.length := by
  show (z.cps.extract i j).size ≤ z.cps.size
  rw [Array.size_extract]
  omega
theorem okZ_iff {z : Str} : okZ z ↔ ∀ c ∈ z.cps.toList, c < 1114112 := by
  show z.cps.all (· < 0x110000) = true ↔ _
  rw [← Array.all_toList, List.all_eq_true]
  simp
theorem sub_ok {z : Str} (h : okZ z) (i j : Nat) : okZ (strSub z i j) := by
  rw [okZ_iff] at h ⊢
  intro c hc
  refine h c ?_
  have hc : c ∈ (z.cps.extract i j).toList := hc
  rw [Array.mem_toList_iff] at hc ⊢
  obtain ⟨k, hk, rfl⟩ := Array.mem_extract_iff_getElem.mp hc
  simp
theorem Tx.mono {N M : Nat} {z : Str} (h : Tx N z) (hl : N ≤ M) : Tx M z := ⟨Nat.le_trans h.len hl, h.ok⟩
theorem split_tx {N : Nat} {z b : Str} (h : Tx N z) : ∀ w ∈ Txt.split z b, Tx N w := by
  intro w hw
  unfold Txt.split at hw
  split at hw
  · rw [List.mem_singleton.mp hw]; exact h
  · split at hw
    · rw [List.mem_singleton.mp hw]; exact h
    · unfold partsBetween at hw
      obtain ⟨⟨i, j⟩, _, rfl⟩ := List.mem_map.mp hw
      exact ⟨Nat.le_trans (sub_len z i j) h.len, sub_ok h.ok i j⟩
theorem split_count (z b : Str) : (Txt.split z b).length ≤ z.length + 2 := by
  unfold Txt.split
  split
  · simp
  · split
    · simp
    · rw [PySem.length_partsBetween]
      have := StrLaws.occ_length_le z b 0 z.length (z.length + 1)
      omega
@[simp] theorem len_hash : (Str.ofString "#").length = 1 := by decide +kernel
@[simp] theorem len_sp : (Str.ofString " ").length = 1 := by decide +kernel
@[simp] theorem len_nl : (Str.ofString "\n").length = 1 := by decide +kernel
theorem okC {z : Str} (hz : okZ z) {c : Nat} (hc : c ∈ z.cps.toList) : okZ ⟨#[c]⟩ := by
  rw [okZ_iff] at hz ⊢
  intro d hd
  simp at hd
  exact hd ▸ hz c hc
theorem char_lt (c : Char) : c.toNat < 1114112 := by
  have := c.valid
  unfold UInt32.isValidChar Nat.isValidChar at this
  show c.val.toNat < 1114112
  omega
theorem reprChar_lt {q c : Nat} (hq : q < 1114112) (hc : c < 1114112) : ∀ d ∈ reprChar q c, d < 1114112 := by
  have hx : ∀ w, ∀ d ∈ (List.replicate (w - ((Nat.toDigits 16 c).map Char.toNat).length) 48 ++ (Nat.toDigits 16 c).map Char.toNat), d < 1114112 := by
    intro w d hd
    rcases List.mem_append.mp hd with h | h
    · rw [(List.mem_replicate.mp h).2]; decide
    · obtain ⟨k, _, rfl⟩ := List.mem_map.mp h
      exact char_lt k
  unfold reprChar
  dsimp only
  intro d hd
  repeat' split at hd
  all_goals first
    | (simp at hd; omega)
    | (rcases List.mem_append.mp hd with h | h
       · simp at h; omega
       · exact hx _ d h)
theorem foldl_lt {q : Nat} (hq : q < 1114112) : ∀ (l : List Nat) (acc : Array Nat), (∀ c ∈ l, c < 1114112) → (∀ c ∈ acc.toList, c < 1114112) → ∀ c ∈ (l.foldl (fun out c => out ++ (reprChar q c).toArray) acc).toList, c < 1114112
  | [], acc, _, h => h
  | x :: l, acc, hl, h => by
    rw [List.foldl_cons]
    refine foldl_lt hq l _ (fun c hc => hl c (List.mem_cons_of_mem _ hc)) fun c hc => ?_
    rw [Array.toList_append] at hc
    rcases List.mem_append.mp hc with h1 | h1
    · exact h c h1
    · exact reprChar_lt hq (hl x List.mem_cons_self) c (by simpa using h1)
theorem repr_ok {z : Str} (hz : okZ z) : okZ (reprText z) := by
  rw [okZ_iff] at hz ⊢
  have hq : reprQuote z < 1114112 := by unfold reprQuote; split <;> decide
  intro c hc
  unfold reprText at hc
  simp only [Array.toList_push] at hc
  rw [← Array.foldl_toList] at hc
  rcases List.mem_append.mp hc with h | h
  · exact foldl_lt hq _ _ hz (by intro d hd; simp at hd; omega) c h
  · rw [List.mem_singleton.mp h]; exact hq
theorem repr_str {z : Str} {st : Store} (hz : okZ z) (hl : 10 * z.length + 2 ≤ line) : reprD st (.str z) = some (reprText z) := by
  have h1 : (reprText z).length ≤ line := Nat.le_trans (StrLaws.reprText_len z fun c hc => Nat.lt_trans (okZ_iff.mp hz c hc) (by decide)) hl
  show (if _ then _ else _) = _
  rw [if_pos]
  · rfl
  · simp [PyData.showable, PyData.depth, PyData.shown, h1]
/-- a plain value: whole numbers, texts, none; k deep -/
inductive Nice : Nat → D → Prop
  | non {k : Nat} : Nice k .non
  | int {k : Nat} {i : Int} : Nice k (.int i)
  | str {k : Nat} {z : Str} : okZ z → Nice k (.str z)
  | lst {k : Nat} {ds : List D} : ds.length ≤ line → (∀ d ∈ ds, Nice k d) → Nice (k + 1) (.lst ds)
  | tup {k : Nat} {ds : List D} : ds.length ≤ line → (∀ d ∈ ds, Nice k d) → Nice (k + 1) (.tup ds)
theorem Nice.fr {k : Nat} {d : D} (h : Nice k d) : freeD d = true := by
  induction h with
  | non => simp
  | int => simp
  | str => simp
  | lst _ _ ih => rw [fr_lst, freeDs_all, List.all_eq_true]; exact ih
  | tup _ _ ih => rw [fr_tup, freeDs_all, List.all_eq_true]; exact ih
theorem zip_self (ds : List D) : ds.zip ds = ds.map fun d => (d, d) := by
  induction ds with
  | nil => rfl
  | cons a r ih => simp [ih]
theorem foldM_inv {ε α S : Type} (P : S → Prop) {step : S → α → Except ε S} : ∀ (xs : List α) (s s' : S), (∀ x ∈ xs, ∀ s s', P s → step s x = .ok s' → P s') → P s → xs.foldlM step s = .ok s' → P s'
  | [], s, s', _, h, e => by cases e; exact h
  | x :: xs, s, s', hf, h, e => by
    rw [List.foldlM_cons] at e
    cases e1 : step s x with
    | error y => rw [e1] at e; cases e
    | ok s1 =>
      rw [e1] at e
      exact foldM_inv P xs s1 s' (fun y hy => hf y (List.mem_cons_of_mem _ hy)) (hf x List.mem_cons_self s s1 h e1) e
/-! ### texts put together -/
theorem app_len (x y : Str) : (x ++ y).length = x.length + y.length := Str.length_append x y
theorem app_ok {x y : Str} (hx : okZ x) (hy : okZ y) : okZ (x ++ y) := by
  rw [okZ_iff] at hx hy ⊢
  intro c hc
  have hc : c ∈ (x.cps ++ y.cps).toList := hc
  rw [Array.toList_append] at hc
  rcases List.mem_append.mp hc with h | h
  · exact hx c h
  · exact hy c h
theorem app_tx {N M : Nat} {x y : Str} (hx : Tx N x) (hy : Tx M y) : Tx (N + M) (x ++ y) := ⟨by rw [app_len]; exact Nat.add_le_add hx.len hy.len, app_ok hx.ok hy.ok⟩
theorem join_ok {sep : Str} (hs : okZ sep) : ∀ zs : List Str, (∀ z ∈ zs, okZ z) → okZ (Str.join sep zs)
  | [], _ => by show okZ Str.empty; rw [okZ_iff]; intro c hc; simp [Str.empty] at hc
  | [x], h => h x List.mem_cons_self
  | x :: y :: r, h => app_ok (app_ok (h x List.mem_cons_self) hs) (join_ok hs (y :: r) fun z hz => h z (List.mem_cons_of_mem _ hz))
theorem sum_le {M : Nat} : ∀ zs : List Str, (∀ z ∈ zs, z.length ≤ M) → (zs.map Str.length).sum ≤ zs.length * M
  | [], _ => by simp
  | x :: r, h => by
    have h1 := h x List.mem_cons_self
    have h2 := sum_le r fun z hz => h z (List.mem_cons_of_mem _ hz)
    simp only [List.map_cons, List.sum_cons, List.length_cons, Nat.succ_mul]
    omega
theorem join_tx {M S : Nat} {sep : Str} {zs : List Str} (hs : Tx S sep) (h : ∀ z ∈ zs, Tx M z) : Tx (zs.length * M + zs.length * S) (Txt.join sep zs) := by
  have e : Txt.join sep zs = Str.join sep zs := StrLaws.glued_eq_join sep zs
  rw [e]
  refine ⟨?_, join_ok hs.ok zs fun z hz => (h z hz).ok⟩
  have h1 := StrLaws.join_length_le sep zs
  have h2 := sum_le zs fun z hz => (h z hz).len
  have h3 : zs.length * sep.length ≤ zs.length * S := Nat.mul_le_mul_left _ hs.len
  exact Nat.le_trans h1 (Nat.add_le_add h2 h3)
theorem join_fit {M S C N : Nat} {sep : Str} {zs : List Str} (hs : Tx S sep) (h : ∀ z ∈ zs, Tx M z) (hc : zs.length ≤ C) (hN : C * M + C * S ≤ N) : (zs.map Str.length).sum + zs.length * sep.length ≤ N ∧ Tx N (Txt.join sep zs) := by
  have h2 := sum_le zs fun z hz => (h z hz).len
  have h3 : zs.length * sep.length ≤ C * S := Nat.mul_le_mul hc hs.len
  have h4 : zs.length * M ≤ C * M := Nat.mul_le_mul_right _ hc
  have h5 : zs.length * S ≤ C * S := Nat.mul_le_mul_right _ hc
  exact ⟨by omega, (join_tx hs h).mono (by omega)⟩
theorem cut_tx {N : Nat} {z : Str} (h : Tx N z) (a b : Option Int) : Tx N (L2.cutS z a b) := by
  constructor
  · refine Nat.le_trans ?_ h.len
    show (List.toArray _).size ≤ z.cps.size
    rw [List.size_toArray, List.length_take, List.length_drop, Array.length_toList]
    omega
  · have := h.ok
    rw [okZ_iff] at this ⊢
    intro c hc
    refine this c ?_
    have hc : c ∈ (List.toArray _).toList := hc
    rw [List.toList_toArray] at hc
    exact List.mem_of_mem_drop (List.mem_of_mem_take hc)
theorem slc_str {z : Str} {st : Store} (h : z.length ≤ line) {a b : Option Int} : slcD st (.str z) a b = some (.str (L2.cutS z a b)) := if_pos h
theorem lit_tx {s : String} {N : Nat} (h : (decide ((Str.ofString s).length ≤ N) && PyData.strOk (Str.ofString s)) = true) : Tx N (Str.ofString s) := by
  rw [Bool.and_eq_true, decide_eq_true_eq] at h
  exact ⟨h.1, h.2⟩
/-- a figure written -/
theorem str_fig {i : Int} (h0 : 0 ≤ i) (h1 : i < 10) : i.natAbs.log2 < 1920 ∧ Tx 1 (Str.ofString (toString i)) := by
  have : i = 0 ∨ i = 1 ∨ i = 2 ∨ i = 3 ∨ i = 4 ∨ i = 5 ∨ i = 6 ∨ i = 7 ∨ i = 8 ∨ i = 9 := by omega
  rcases this with rfl | rfl | rfl | rfl | rfl | rfl | rfl | rfl | rfl | rfl <;> exact ⟨by decide +kernel, lit_tx (by decide +kernel)⟩
theorem mem_cutL {α : Type} {xs : List α} {a b : Option Int} {x : α} (h : x ∈ cutL xs a b) : x ∈ xs := List.mem_of_mem_drop (List.mem_of_mem_take h)
theorem cutL_len {α : Type} {xs : List α} {a b : Option Int} : (cutL xs a b).length ≤ xs.length := by
  unfold cutL
  rw [List.length_take, List.length_drop]
  omega
def sumL (zs : List Str) : Nat := (zs.map Str.length).sum
@[simp] theorem sumL_nil : sumL [] = 0 := rfl
@[simp] theorem sumL_cons {z : Str} {zs : List Str} : sumL (z :: zs) = z.length + sumL zs := by simp [sumL]
@[simp] theorem sumL_app {a b : List Str} : sumL (a ++ b) = sumL a + sumL b := by simp [sumL]
theorem glued_len (sep : Str) : ∀ zs : List Str, sumL zs ≤ (Str.join sep zs).length
  | [] => Nat.zero_le _
  | [x] => by simp [Str.join]
  | x :: y :: r => by
    have ih := glued_len sep (y :: r)
    show _ ≤ (x ++ sep ++ Str.join sep (y :: r)).length
    rw [app_len, app_len]
    rw [sumL_cons]
    omega
theorem split_sum (z b : Str) : sumL (Txt.split z b) ≤ z.length := by
  unfold Txt.split
  split
  · simp
  · split
    · simp
    · have h := glued_len b (partsBetween z (occurrences z b 0 z.length (z.length + 1)) b.length)
      rw [← StrLaws.glued_eq_join, StrLaws.glued_between_self] at h
      exact h
/-- texts, so long in all, so many -/
structure GL (S C : Nat) (zs : List Str) : Prop where
  ok : ∀ z ∈ zs, okZ z
  sum : sumL zs ≤ S
  len : zs.length ≤ C
theorem sum_take_le : ∀ (n : Nat) (zs : List Str), sumL (zs.take n) ≤ sumL zs
  | 0, _ => by simp
  | _ + 1, [] => by simp
  | n + 1, z :: zs => by
    have := sum_take_le n zs
    rw [List.take_succ_cons, sumL_cons, sumL_cons]
    omega
theorem sum_drop_le : ∀ (n : Nat) (zs : List Str), sumL (zs.drop n) ≤ sumL zs
  | 0, _ => by simp
  | _ + 1, [] => by simp
  | n + 1, z :: zs => by
    have := sum_drop_le n zs
    rw [List.drop_succ_cons, sumL_cons]
    omega
theorem GL.cut {S C : Nat} {zs : List Str} (h : GL S C zs) (a b : Option Int) : GL S C (cutL zs a b) :=
  ⟨fun z hz => h.ok z (mem_cutL hz), Nat.le_trans (sum_take_le _ _) (Nat.le_trans (sum_drop_le _ _) h.sum), Nat.le_trans cutL_len h.len⟩
theorem GL.app {S C S' C' : Nat} {a b : List Str} (h : GL S C a) (h' : GL S' C' b) : GL (S + S') (C + C') (a ++ b) :=
  ⟨fun z hz => (List.mem_append.mp hz).elim (h.ok z) (h'.ok z), by rw [sumL_app]; exact Nat.add_le_add h.sum h'.sum, by rw [List.length_append]; exact Nat.add_le_add h.len h'.len⟩
theorem GL.rev {S C : Nat} {zs : List Str} (h : GL S C zs) : GL S C zs.reverse :=
  ⟨fun z hz => h.ok z (List.mem_reverse.mp hz), by unfold sumL; rw [List.map_reverse, List.sum_reverse]; exact h.sum, by rw [List.length_reverse]; exact h.len⟩
theorem GL.tail {S C : Nat} {zs : List Str} (h : GL S C zs) : GL S C zs.tail := by
  rw [← List.drop_one]
  exact ⟨fun z hz => h.ok z (List.mem_of_mem_drop hz), Nat.le_trans (sum_drop_le _ _) h.sum, Nat.le_trans (by rw [List.length_drop]; omega) h.len⟩
theorem GL.one {N : Nat} {z : Str} (h : Tx N z) : GL N 1 [z] := ⟨by simpa using h.ok, by simpa using h.len, by simp⟩
theorem GL.join {S C N M : Nat} {sep : Str} {zs : List Str} (h : GL S C zs) (hs : Tx M sep) (hN : S + C * M ≤ N) (hN2 : N ≤ line) : Tx N (Txt.join sep zs) ∧ ∀ st d, (items st d).bind strsD = some zs → metD st .join (.str sep) [d] = some (.str (Txt.join sep zs), st) := by
  have h1 : (zs.map Str.length).sum ≤ S := h.sum
  have h3 : zs.length * sep.length ≤ C * M := Nat.mul_le_mul h.len hs.len
  refine ⟨⟨?_, ?_⟩, fun st d e => join_strs e (by omega)⟩
  · have e : Txt.join sep zs = Str.join sep zs := StrLaws.glued_eq_join sep zs
    rw [e]
    have := StrLaws.join_length_le sep zs
    have h5 : (zs.map (·.length)).sum = (zs.map Str.length).sum := rfl
    omega
  · have e : Txt.join sep zs = Str.join sep zs := StrLaws.glued_eq_join sep zs
    rw [e]
    exact join_ok hs.ok zs h.ok
theorem repl_len (a : Array Nat) : ∀ (k : Nat) (acc : Array Nat), ((List.replicate k a).foldl (· ++ ·) acc).size = acc.size + k * a.size
  | 0, acc => by simp
  | k + 1, acc => by
    rw [List.replicate_succ, List.foldl_cons, repl_len a k, Array.size_append, Nat.succ_mul]
    omega
theorem repl_mem (a : Array Nat) : ∀ (k : Nat) (acc : Array Nat), ∀ c ∈ ((List.replicate k a).foldl (· ++ ·) acc).toList, c ∈ acc.toList ∨ c ∈ a.toList
  | 0, acc, c, h => .inl h
  | k + 1, acc, c, h => by
    rw [List.replicate_succ, List.foldl_cons] at h
    rcases repl_mem a k _ c h with h | h
    · rw [Array.toList_append] at h
      exact List.mem_append.mp h
    · exact .inr h
theorem mul_tx {z : Str} {k : Nat} (h2 : 2 ≤ k) (hz : 0 < z.length) (ho : okZ z) : Tx (k * z.length) (Txt.mul z (k : Int)) := by
  have e : Txt.mul z (k : Int) = ⟨(List.replicate k z.cps).foldl (· ++ ·) #[]⟩ := by
    unfold Txt.mul
    rw [if_neg (by omega), if_neg (by simp; omega)]
    rfl
  rw [e]
  refine ⟨?_, ?_⟩
  · show Array.size _ ≤ _
    rw [repl_len]
    show 0 + k * z.length ≤ _
    omega
  · rw [okZ_iff] at ho ⊢
    intro c hc
    rcases repl_mem z.cps k #[] c hc with h | h
    · simp at h
    · exact ho c h
theorem bin_mul {st : Store} {z : Str} {k : Nat} (h2 : 2 ≤ k) (h : k ≤ 1000000) (hz : 0 < z.length) (hl : z.length * k ≤ line) : binD st .mul (.str z) (.int (k : Int)) = some (.str (Txt.mul z (k : Int))) := by
  have hc : (decide (2 ≤ (k : Int)) && decide ((k : Int) ≤ 1000000) && decide (0 < z.length) && decide (z.length * (k : Int).toNat ≤ line)) = true := by
    simp
    exact ⟨⟨⟨by omega, by omega⟩, hz⟩, hl⟩
  exact if_pos (c := _ = true) hc
end MP
end
section
set_option maxRecDepth 100000
set_option maxHeartbeats 4000000
/-! MPLot: lots of whole numbers, in order. -/
namespace MP
open PySem PySem.Builtin.Str
def lle (a b : List Int) : Bool := PySem.W.dataLe false toP (.lst (a.map .int)) (.lst (b.map .int))
def srt (ls : List (List Int)) : List (List Int) := ls.mergeSort lle
theorem alike_ints : ∀ a b : List Int, W.alikeAll ((a.map D.int).map toP) ((b.map D.int).map toP) = true
  | [], b => by simp [W.alikeAll]
  | _ :: _, [] => by simp [W.alikeAll]
  | x :: a, y :: b => by
    simp only [List.map_cons, W.alikeAll, toP_int, W.alike, alike_ints a b]
    rfl
theorem srt_length (ls : List (List Int)) : (srt ls).length = ls.length := List.length_mergeSort _
theorem srt_perm (ls : List (List Int)) : (srt ls).Perm ls := List.mergeSort_perm _ _
theorem sort_LL {st : Store} {d : D} {ls : List (List Int)} (h : snap st d = some (.lst (ls.map fun l => .lst (l.map .int)))) (hl : ls.length ≤ line) : sortD st d = some (.lst ((srt ls).map fun l => .lst (l.map .int))) := by
  unfold sortD
  rw [h]
  have h1 : alikeAll (toPs (ls.map fun l => D.lst (l.map .int))) = true := by
    unfold alikeAll
    rw [toPs_map, List.map_map, List.all_eq_true]
    intro x hx
    obtain ⟨a, _, rfl⟩ := List.mem_map.mp hx
    rw [List.all_eq_true]
    intro y hy
    obtain ⟨b, _, rfl⟩ := List.mem_map.mp hy
    show W.alike (toP (.lst (a.map .int))) (toP (.lst (b.map .int))) = true
    rw [toP_lst, toP_lst]
    simp only [W.alike]
    exact alike_ints a b
  have h2 : sortB (toPs (ls.map fun l => D.lst (l.map .int))) = true := by
    unfold sortB
    rw [toPs_map, List.map_map, Bool.or_eq_true]
    right
    rw [List.all_eq_true]
    intro x hx
    obtain ⟨a, _, rfl⟩ := List.mem_map.mp hx
    show (match toP (.lst (a.map .int)) with | .none => false | .tuple _ => false | _ => true) = true
    rw [toP_lst]
  have h3 : deepOk (toPs (ls.map fun l => D.lst (l.map .int))) = true := by
    unfold deepOk
    rw [toPs_map, List.map_map, List.all_eq_true]
    intro x hx
    obtain ⟨a, _, rfl⟩ := List.mem_map.mp hx
    rw [decide_eq_true_eq]
    exact Nat.le_trans (Enc.depth a) (by decide)
  show (if _ then _ else _) = _
  rw [h1, h2, h3, if_pos (by simpa using hl)]
  congr 2
  unfold srt
  rw [List.map_mergeSort (s := PySem.W.dataLe false toP)]
  exact fun a _ b _ => rfl
/-! ### the order is that of the signs -/
theorem lt_ints : ∀ a b : List Int, PyProof.Rows.lexLt PyProof.Rows.itemOrd (W.keyToksAll ((a.map D.int).map toP)) (W.keyToksAll ((b.map D.int).map toP)) = HT.lexLt a b
  | [], [] => by simp only [List.map_nil, W.keyToksAll]; rfl
  | [], y :: b => by simp only [List.map_nil, List.map_cons, W.keyToksAll]; rfl
  | x :: a, [] => by simp only [List.map_nil, List.map_cons, W.keyToksAll]; rfl
  | x :: a, y :: b => by
    simp only [List.map_cons, toP_int]
    rw [W.dataLt_cons (by simp [W.alike]), lt_ints a b, HT.lexLt_cons]
    simp only [PyData.eqv]
    by_cases h : x = y
    · simp [h]
    · simp [h]
      rw [W.dataLt_int]
theorem lle_eq (a b : List Int) : lle a b = !HT.lexLt b a := by
  unfold lle W.dataLe PySem.W.sortLe
  show (!PyProof.Rows.lexLt PyProof.Rows.itemOrd (W.keyToks (toP (.lst (b.map .int)))) (W.keyToks (toP (.lst (a.map .int))))) = _
  rw [toP_lst, toP_lst]
  simp only [W.keyToks]
  rw [lt_ints b a]
theorem lex_tri : ∀ a b : List Int, HT.lexLt a b = false → HT.lexLt b a = false → a = b
  | [], [], _, _ => rfl
  | [], _ :: _, h, _ => by cases h
  | _ :: _, [], _, h => by cases h
  | x :: a, y :: b, h1, h2 => by
    rw [HT.lexLt_cons] at h1 h2
    by_cases h : x = y
    · subst h
      simp at h1 h2
      rw [lex_tri a b h1 h2]
    · simp [h] at h1
      simp [show ¬ y = x from fun e => h e.symm] at h2
      omega
theorem lle_trans (a b c : List Int) (h1 : lle a b = true) (h2 : lle b c = true) : lle a c = true := by
  rw [lle_eq] at *
  simp at *
  exact NtL.lex_tr _ _ _ h1 h2
theorem lle_total (a b : List Int) : (lle a b || lle b a) = true := by
  rw [lle_eq, lle_eq]
  cases h : HT.lexLt b a with
  | false => rfl
  | true => rw [NtL.lex_asym _ _ h]; rfl
theorem srt_pairwise (ls : List (List Int)) : (srt ls).Pairwise fun a b => lle a b = true := List.pairwise_mergeSort lle_trans lle_total ls
/-- unlike lots in order: each less than the next ones -/
theorem srt_strict {ls : List (List Int)} (h : ls.Nodup) : (srt ls).Pairwise fun a b => HT.lexLt a b = true := by
  have h1 := srt_pairwise ls
  have h2 : (srt ls).Pairwise (fun a b => a ≠ b) := ((srt_perm ls).nodup_iff).mpr h
  refine (h1.and h2).imp fun {a b} ⟨g1, g2⟩ => ?_
  rw [lle_eq] at g1
  simp at g1
  cases h3 : HT.lexLt a b with
  | true => rfl
  | false => exact absurd (lex_tri a b h3 g1) g2
@[simp] theorem c_ltLL {st : Store} {a b : List Int} : cmpD st .lt (.lst (a.map .int)) (.lst (b.map .int)) = some (HT.lexLt a b) := by
  have e : cmpD st .lt (.lst (a.map .int)) (.lst (b.map .int)) = (match (items st (.lst (a.map D.int))).bind intsD, (items st (.lst (b.map D.int))).bind intsD with
    | some xs, some ys => some (HT.lexLt xs ys)
    | _, _ => none) := rfl
  rw [e]
  simp
end MP
end
section
set_option maxRecDepth 100000
set_option maxHeartbeats 4000000
namespace MP
open PySem PySem.Builtin.Str
/-! ### what repr shows -/
structure Rp (k w : Nat) (d : D) (x : PyData) : Prop where
  th : ∀ (st : Store) (n : Nat), k ≤ n → thaw st n d = some x
  sh : x.showable = true
  dp : x.depth ≤ k
  lf : x.leavesShort 13 = true
  wt : x.weight ≤ w
  ok : okZ x.shown
theorem ok_text (s : String) : okZ (Str.ofString s) := by
  rw [okZ_iff, Str.ofString_eq_toList]
  intro c hc
  simp only [List.mem_map] at hc
  obtain ⟨a, _, rfl⟩ := hc
  have := a.valid
  rcases this with h | h
  · exact Nat.lt_trans h (by decide)
  · exact h.2
theorem textFrom_ok : ∀ (ts : List Str) (k : Nat) (acc : Str), okZ acc → (∀ t ∈ ts, okZ t) → okZ (textFrom k acc ts)
  | [], _, _, h, _ => h
  | t :: r, k, acc, h, ht => textFrom_ok r (k + 1) _ (app_ok (app_ok h (ok_text _)) (ht t List.mem_cons_self)) fun x hx => ht x (List.mem_cons_of_mem _ hx)
theorem listText_ok {ts : List Str} (h : ∀ t ∈ ts, okZ t) : okZ (listText ts) := app_ok (textFrom_ok ts 0 _ (ok_text _) h) (ok_text _)
theorem tupleText_ok {ts : List Str} (h : ∀ t ∈ ts, okZ t) : okZ (tupleText ts) := app_ok (app_ok (ok_text _) (join_ok (ok_text _) ts h)) (ok_text _)
def Rq (k w : Nat) (d : D) : Prop := ∃ x, Rp k w d x
theorem Rq.mono {k k' w w' : Nat} {d : D} (h : Rq k w d) (hk : k ≤ k') (hw : w ≤ w') : Rq k' w' d := by
  obtain ⟨x, h⟩ := h
  exact ⟨x, fun st n hn => h.th st n (by omega), h.sh, Nat.le_trans h.dp hk, h.lf, Nat.le_trans h.wt hw, h.ok⟩
theorem Rq.non : Rq 0 0 .non := ⟨.none, fun st n _ => by cases n <;> rfl, rfl, by simp [PyData.depth], rfl, by simp [PyData.weight], ok_text _⟩
theorem Rq.bl {b : Bool} : Rq 0 0 (.bl b) := ⟨.bool b, fun st n _ => by cases n <;> rfl, rfl, by simp [PyData.depth], rfl, by simp [PyData.weight], by cases b <;> exact ok_text _⟩
theorem _root_.PySem.PyData.shown_int' {i : Int} : (PyData.int i).shown = Str.ofString (toString i) := (rfl)
theorem log_lt {i : Int} (hi : -100000000000 ≤ i ∧ i ≤ 100000000000) : i.natAbs.log2 < 37 := by
  by_cases h0 : i.natAbs = 0
  · rw [h0]; decide
  · rw [Nat.log2_lt h0]
    omega
theorem Rq.int {i : Int} (hi : -100000000000 ≤ i ∧ i ≤ 100000000000) : Rq 0 40 (.int i) := by
  have hl := log_lt hi
  refine ⟨.int i, fun st n _ => by cases n <;> rfl, ?_, by simp [PyData.depth], ?_, ?_, ok_text _⟩
  · simp only [PyData.showable, decide_eq_true_eq]
    omega
  · have h1 := int_text_length_le10 (a := i) (k := 12) (by decide) (by omega)
    have h2 : (PyData.int i).shown.length = (toString i).length := (congrArg Str.length PyData.shown_int').trans (PySem.ofString_length _)
    simp only [PyData.leavesShort]
    exact decide_eq_true (by omega)
  · simp only [PyData.weight]
    split <;> omega
theorem Rq.str {z : Str} (hz : okZ z) : Rq 0 z.length (.str z) := ⟨.str z, fun st n _ => by cases n <;> rfl, rfl, by simp [PyData.depth], by
  simp only [PyData.leavesShort, List.all_eq_true, decide_eq_true_eq]
  exact fun c hc => Nat.lt_trans (okZ_iff.mp hz c hc) (by decide), by simp [PyData.weight]; exact Nat.le_refl _, repr_ok hz⟩
theorem rq_all {k w : Nat} : ∀ (ds : List D), (∀ d ∈ ds, Rq k w d) → ∃ xs : List PyData, (∀ (st : Store) (n : Nat), k ≤ n → mapO (thaw st n) ds = some xs) ∧ PyData.showableAll xs = true ∧ PyData.depthAll xs ≤ k ∧ PyData.leavesShortAll 13 xs = true ∧ PyData.weightAll xs ≤ (w + 1) * ds.length ∧ ∀ t ∈ PyData.shownAll xs, okZ t
  | [], _ => ⟨[], fun _ _ _ => rfl, rfl, Nat.zero_le _, rfl, Nat.zero_le _, by simp [PyData.shownAll]⟩
  | d :: ds, h => by
    obtain ⟨x, hx⟩ := h d List.mem_cons_self
    obtain ⟨xs, h1, h2, h3, h4, h5, h6⟩ := rq_all ds fun e he => h e (List.mem_cons_of_mem _ he)
    refine ⟨x :: xs, fun st n hn => ?_, ?_, ?_, ?_, ?_, ?_⟩
    · simp [mapO, hx.th st n hn, h1 st n hn]
    · simp [PyData.showableAll, hx.sh, h2]
    · simp only [PyData.depthAll]
      have := hx.dp
      omega
    · simp [PyData.leavesShortAll, hx.lf, h4]
    · have := hx.wt
      simp only [PyData.weightAll, List.length_cons, Nat.mul_add, Nat.mul_one]
      omega
    · intro t ht
      rw [PyData.shownAll] at ht
      rcases List.mem_cons.mp ht with rfl | ht
      · exact hx.ok
      · exact h6 t ht
theorem Rq.lst {k w : Nat} {ds : List D} (h : ∀ d ∈ ds, Rq k w d) : Rq (k + 1) ((w + 1) * ds.length) (.lst ds) := by
  obtain ⟨xs, h1, h2, h3, h4, h5, h6⟩ := rq_all ds h
  refine ⟨.list xs, fun st n hn => ?_, ?_, ?_, ?_, ?_, listText_ok h6⟩
  · cases n with
    | zero => omega
    | succ n => simp [thaw, h1 st n (by omega)]
  · simpa only [PyData.showable] using h2
  · simp only [PyData.depth]; omega
  · simpa only [PyData.leavesShort] using h4
  · simpa only [PyData.weight] using h5
theorem Rq.tup {k w : Nat} {ds : List D} (h : ∀ d ∈ ds, Rq k w d) : Rq (k + 1) ((w + 1) * ds.length) (.tup ds) := by
  obtain ⟨xs, h1, h2, h3, h4, h5, h6⟩ := rq_all ds h
  refine ⟨.tuple xs, fun st n hn => ?_, ?_, ?_, ?_, ?_, tupleText_ok h6⟩
  · cases n with
    | zero => omega
    | succ n => simp [thaw, h1 st n (by omega)]
  · simpa only [PyData.showable] using h2
  · simp only [PyData.depth]; omega
  · simpa only [PyData.leavesShort] using h4
  · simpa only [PyData.weight] using h5
theorem Rq.repr {k w : Nat} {d : D} (h : Rq k w d) (hk : k ≤ 9) (hw : w ≤ 1000000) : ∃ r : Str, okZ r ∧ ∀ st : Store, reprD st d = some r := by
  obtain ⟨x, h⟩ := h
  have hl := PyData.shown_le 13 (by decide) x h.lf
  have hwt := h.wt
  have hdp := h.dp
  refine ⟨x.shown, h.ok, fun st => ?_⟩
  have ht := h.th st 9 hk
  have e : reprD st d = (thaw st 9 d).bind fun x => if x.showable && decide (x.depth ≤ 64) && decide (x.shown.length ≤ line) then some x.shown else none := by
    unfold reprD
    split
    · simp [thaw] at ht
    · rfl
  rw [e, ht]
  have hd : x.depth ≤ 64 := by omega
  have hs : x.shown.length ≤ line := by unfold line; omega
  simp [h.sh, hd, hs]
theorem Rq.ints {l : List Int} (h : ∀ i ∈ l, -100000000000 ≤ i ∧ i ≤ 100000000000) : Rq 1 (41 * l.length) (.lst (l.map .int)) := by
  have := Rq.lst (k := 0) (w := 40) (ds := l.map .int) fun d hd => by
    obtain ⟨i, hi, rfl⟩ := List.mem_map.mp hd
    exact Rq.int (h i hi)
  rwa [List.length_map] at this
end MP
end
section
set_option maxRecDepth 100000
set_option maxHeartbeats 4000000
namespace MP
namespace L
open PySem PySem.Builtin.Str
/-- a call, n deep -/
def rn (n f : Nat) (ds : List D) (st : Store) : R D := MP.run (fun i => fl[i]?) (conOf nums) 400 NF n f ds st
def cx (n : Nat) : Cxt := ⟨rn n, conOf nums, 400, NF⟩
@[simp] theorem cx_cal {n : Nat} : (cx n).cal = rn n := (rfl)
@[simp] theorem cx_nf {n : Nat} : (cx n).nf = NF := (rfl)
@[simp] theorem cx_whl {n : Nat} : (cx n).whl = 400 := (rfl)
@[simp] theorem cx_con {n : Nat} {g : Nat} : (cx n).con g = conOf nums g := (rfl)
theorem rn_succ {n f : Nat} {fn : Fn} {ds : List D} {st : Store} (h : fl[f]? = some fn) : rn (n + 1) f ds st = if ds.length = fn.ar then outR (exs (cx n) fn.body (ds.map some ++ List.replicate (fn.sl - ds.length) none) st) else .bad := by
  rw [← run1_eq]
  show MP.run _ _ _ _ _ _ _ _ = _
  rw [MP.run]
  simp only [h]
  rfl
end L
end MP
end
section
set_option maxRecDepth 100000
set_option maxHeartbeats 4000000
namespace MP
namespace L
open PySem PySem.Builtin.Str
/-! ### what is drawn -/
theorem s_hash {n : Nat} {s i : Int} {st : Store} (hs : 0 ≤ s ∧ s < 2147483648) (hi : 0 ≤ i ∧ i < 1000000000000) : ∃ v : Int, rn (n + 1) f__law_hash [.int s, .int i] st = .ok (.int v) st ∧ 0 ≤ v ∧ v < 2147483647 := by
  rw [rn_succ lk__law_hash]
  have a1 : binI .mul s 1140671 = some (.int (s * 1140671)) := bi_mul (.inl (by omega))
  have a2 : binI .mul 27644437 i = some (.int (27644437 * i)) := bi_mul (.inl (by omega))
  have a3 : binI .mul (27644437 * i) i = some (.int (27644437 * i * i)) := bi_mul (.inr (by omega))
  have a4 : binI .mul 131 i = some (.int (131 * i)) := bi_mul (.inl (by omega))
  have m1 : ∀ t : Int, -(2 ^ 64 : Int) < t % 2147483629 ∧ t % 2147483629 < 2 ^ 64 := fun t => by omega
  have a5 : ∀ t : Int, binI .mul (t % 2147483629) (t % 2147483629) = some (.int (t % 2147483629 * (t % 2147483629))) := fun t => bi_mul (.inl (m1 t))
  have a6 : binI .mul 62089 i = some (.int (62089 * i)) := bi_mul (.inl (by omega))
  have a7 : ∀ t : Int, binI .mul t 48271 = some (.int (t * 48271)) := fun t => bi_mul (.inr (by omega))
  simp [b__law_hash, a1, a2, a3, a4, a5, a6, a7]
  omega
/-- the generator's cell -/
def Gn (g b : Nat) (st : Store) : Prop := ∃ (a : Int) (s c : Nat), st[g]? = some (.lst [.int a, .int s, .int c]) ∧ s < 2147483647 ∧ c ≤ b
theorem Gn.mono {g a b : Nat} {st : Store} (h : Gn g a st) (hl : a ≤ b) : Gn g b st := by
  obtain ⟨x, s, c, e, h1, h2⟩ := h
  exact ⟨x, s, c, e, h1, Nat.le_trans h2 hl⟩
theorem Gn.app {g a : Nat} {st : Store} (h : Gn g a st) (xs : List Cell) : Gn g a (st ++ xs) := by
  obtain ⟨x, s, c, e, h1, h2⟩ := h
  exact ⟨x, s, c, by rw [List.getElem?_append_left (lt_of_get e)]; exact e, h1, h2⟩
theorem Gn.set {g a k : Nat} {st : Store} (h : Gn g a st) (hk : k ≠ g) (y : Cell) : Gn g a (st.set k y) := by
  obtain ⟨x, s, c, e, h1, h2⟩ := h
  exact ⟨x, s, c, by rw [List.getElem?_set, if_neg hk]; exact e, h1, h2⟩
theorem s_random {n g b : Nat} {many : Int} {st : Store} (hg : Gn g b st) (hm : 0 < many) (hm2 : many ≤ 100) (hb : b ≤ 100000000000) : ∃ (v : Int) (y : Cell), rn (n + 2) f__law_random [.cel g, .int many] st = .ok (.int v) (st.set g y) ∧ (0 ≤ v ∧ v < many) ∧ Gn g (b + 1) (st.set g y) := by
  obtain ⟨a, s, c, hc, h1, h2⟩ := hg
  rw [rn_succ lk__law_random]
  have hmod : ∀ t : Int, 0 ≤ t % many ∧ t % many < many := fun t => ⟨Int.emod_nonneg _ (by omega), Int.emod_lt_of_pos _ hm⟩
  have i0 : L2.ixN 3 0 = some 0 := by decide
  have i2 : L2.ixN 3 2 = some 2 := by decide
  by_cases ha : 0 < a
  · simp [b__law_random, sub_cel hc, set_cel hc, i0, ha, hm, show many < 1073741824 by omega]
    exact ⟨_, _, ⟨rfl, rfl⟩, hmod a, ⟨a / many, s, c, get_set _ hc, h1, by omega⟩⟩
  · have hbits : (Builtin.Int.intBits many : Int) / 30 = 0 := by
      have h3 : Builtin.Int.intBits many ≤ 7 := by
        unfold Builtin.Int.intBits
        split
        · omega
        · have : many.natAbs.log2 < 7 := (Nat.log2_lt (by omega)).mpr (by omega)
          omega
      omega
    obtain ⟨v, e, v0, v1⟩ := s_hash (n := n) (s := s) (i := (c : Int) + 1) (st := []) (by omega) (by omega)
    have hc2 := get_set (Cell.lst [.int a, .int s, .int ((c : Int) + 1)]) hc
    simp [b__law_random, sub_cel hc, ha, hbits, for_cons, for_nil, l__law_random_0, set_cel hc, i2, sub_cel hc2, e, hm]
    exact ⟨_, _, ⟨rfl, rfl⟩, hmod _, ⟨a, s, c + 1, hc2, h1, by omega⟩⟩
/-- the script's own number -/
theorem s_cell {n : Nat} {ns : List Int} {i : Int} {st : Store} (hi : 0 ≤ i) : ∃ v : Int, rn (n + 1) f__law_cell [.scr ns, .int i] st = .ok (.int v) st := by
  obtain ⟨k, rfl⟩ := Int.eq_ofNat_of_zero_le hi
  rw [rn_succ lk__law_cell]
  have hc : slcD st (.scr ns) none (some 1) = some (.lst ((cutL ns none (some 1)).map .int)) := rfl
  have hs : subD st (.scr ns) (.int (k : Int)) = (L2.atI ns (k : Int)).map .int := rfl
  have hn : lenD st (.scr ns) = some ns.length := rfl
  by_cases h : k < ns.length
  · simp [b__law_cell, hn, hs, h]
  · simp [b__law_cell, hn, hs, h, hc]
def tenA : Int := 10 ^ 60
def tenB : Int := tenA ^ 10
/-- a new generator -/
theorem s_generator {n : Nat} {ns : List Int} {i : Int} {st : Store} (hi : 0 ≤ i ∧ i < 1000) : ∃ st' : Store, rn (n + 2) f__law_generator [.scr ns, .int i] st = .ok (.cel st.length) st' ∧ Gn st.length 1000000 st' ∧ Fix st.length st st' ∧ st'.length = st.length + 1 := by
  obtain ⟨v, e⟩ := s_cell (n := n) (ns := ns) (st := []) hi.1
  rw [rn_succ lk__law_generator]
  have p1 : binI .pow 10 18 = some (.int 1000000000000000000) := by rfl
  have p2 : binI .pow 10 60 = some (.int tenA) := by rfl
  have p3 : binI .pow tenA 10 = some (.int tenB) := by
    have h : (decide ((0 : Int) ≤ 10) && decide ((Builtin.Int.intBits tenA : Int) * 10 ≤ 134217728)) = true := by decide +kernel
    exact if_pos (c := _ = true) (e := none) h
  have p4 : (0 : Int) < tenB := by decide +kernel
  have m1 : binI .mul 1000 i = some (.int (1000 * i)) := bi_mul (.inl (by omega))
  have m2 : ∀ x : Int, binI .mod x tenB = some (.int (x % tenB)) := fun x => bi_mod p4
  obtain ⟨k, hk⟩ := Int.eq_ofNat_of_zero_le (show 0 ≤ v % 2147483647 from Int.emod_nonneg _ (by omega))
  have hk1 : v % 2147483647 < 2147483647 := Int.emod_lt_of_pos _ (by omega)
  obtain ⟨c, hc⟩ := Int.eq_ofNat_of_zero_le (show 0 ≤ 1000 * i by omega)
  simp [b__law_generator, e, p1, p2, p3, m1, m2]
  exact ⟨⟨(if v - 1000000000000000000 < 0 then 0 else v - 1000000000000000000) % tenB, k, c, by simp [hk, hc], by omega, by omega⟩, Fix.app _ _ _⟩
/-! ### an order drawn -/
/-- the lots left and those found, in two cells behind all others -/
structure InvO (g b : Nat) (st0 : Store) (ds : List (List Int)) (i : Nat) (ls fs : List (List Int)) (st : Store) : Prop where
  cl : st[st0.length]? = some (.lst (ls.map fun l => .lst (l.map .int)))
  cf : st[st0.length + 1]? = some (.lst (fs.map fun l => .lst (l.map .int)))
  gn : Gn g (b + (ds.length - i)) st
  fx : Fix g st0 st
  nl : ls.length = i
  le : i ≤ ds.length
  pm : (ls ++ fs).Perm ds
def invO (g b : Nat) (st0 : Store) (ds : List (List Int)) (i : Nat) (ρ : Sl) (st : Store) : Prop := ∃ ls fs, ρ = [some (.cel g), some (.lst (ds.map fun l => .lst (l.map .int))), some (.cel st0.length), some (.cel (st0.length + 1))] ∧ InvO g b st0 ds i ls fs st
theorem perm_erase : ∀ (ls : List (List Int)) (j : Nat) (hj : j < ls.length), ls.Perm (ls[j] :: ls.eraseIdx j)
  | a :: r, 0, _ => List.Perm.refl _
  | a :: r, j + 1, hj => by
    have := perm_erase r j (by simpa using hj)
    simp only [List.getElem_cons_succ, List.eraseIdx_cons_succ]
    exact (List.Perm.cons a this).trans (List.Perm.swap _ _ _)
theorem perm_step {ls fs : List (List Int)} {j : Nat} (hj : j < ls.length) : (ls.eraseIdx j ++ (fs ++ [ls[j]])).Perm (ls ++ fs) := by
  have h2 : (ls.eraseIdx j ++ (fs ++ [ls[j]])).Perm (ls[j] :: (ls.eraseIdx j ++ fs)) := by
    rw [← List.append_assoc]
    exact List.perm_append_singleton _ _
  exact h2.trans ((List.Perm.append_right fs (perm_erase ls j hj).symm))
theorem t_drawn_order {n g b : Nat} {ds : List (List Int)} {st0 : Store} (hgl : g < st0.length) (hl : ds.length ≤ 100) (hb : b ≤ 10000000000) {i : Nat} {ρ : Sl} {st : Store} (h : invO g b st0 ds (i + 1) ρ st) :
    ((ev (cx (n + 2)) (.cmp .ne (.nm 2) (.lst .nil)) ρ st).bind fun x st => ofO (tb x) st) = .ok true st ∧ (exs (cx (n + 2)) l__law_drawn_order_0 ρ st).on (invO g b st0 ds i) := by
  obtain ⟨ls, fs, rfl, H⟩ := h
  have q1 := eq_C0 (xs := ls) (f := fun l => .lst (l.map .int)) H.cl (fun _ _ => lot_nice)
  have hnl := H.nl
  have hle := H.le
  have hne : ls ≠ [] := by intro z; rw [z] at hnl; simp at hnl
  refine ⟨by simp [q1, hne], ?_⟩
  obtain ⟨v, y, e, ⟨v0, v1⟩, g1⟩ := s_random (n := n) (many := ls.length) H.gn (by omega) (by omega) (by omega)
  obtain ⟨j, rfl⟩ := Int.eq_ofNat_of_zero_le v0
  have hj : j < ls.length := by omega
  have c1 := get_ne H.cl (show g ≠ st0.length by omega) y
  have c2 := get_ne H.cf (show g ≠ st0.length + 1 by omega) y
  have e1 := len_cel H.cl
  have e2 := items_cel H.cl
  have e3 := items_cel H.cf
  have hd : (ls.map fun l => D.lst (l.map .int))[j]'(by simpa using hj) = D.lst (ls[j].map .int) := by simp
  have e4 := pop_cel c1 (by simp; unfold line; omega) (show j < (ls.map fun l => D.lst (l.map .int)).length by simpa using hj)
  rw [hd] at e4
  have c3 := get_ne c2 (show st0.length ≠ st0.length + 1 by omega) (.lst ((ls.map fun l => D.lst (l.map .int)).eraseIdx j))
  have c4 := get_set (.lst ((ls.map fun l => D.lst (l.map .int)).eraseIdx j)) c1
  have hfl : fs.length ≤ ds.length := by have := H.pm.length_eq; simp at this; omega
  have e5 := app_cel (d := D.lst (ls[j].map .int)) c3 (by simp; unfold line; omega)
  simp [l__law_drawn_order_0, e, e1, e2, e3, e4, e5]
  refine ⟨ls.eraseIdx j, fs ++ [ls[j]], rfl, ?_, ?_, ?_, ?_, ?_, by omega, (perm_step hj).trans H.pm⟩
  · rw [get_ne c4 (by omega), eraseIdx_map]
  · rw [get_set _ c3]
    simp
  · exact ((g1.set (by omega) _).set (by omega) _).mono (by omega)
  · exact ((H.fx.trans (Fix.set g st y)).setBig (Nat.le_refl _) _).setBig (Nat.le_succ _) _
  · rw [List.length_eraseIdx_of_lt hj]; omega
theorem s_drawn_order {n g b : Nat} {ds : List (List Int)} {st : Store} (hg : Gn g b st) (hl : ds.length ≤ 100) (hb : b ≤ 10000000000) : ∃ (fs : List (List Int)) (st' : Store), rn (n + 3) f__law_drawn_order [.cel g, .lst (ds.map fun l => .lst (l.map .int))] st = .ok (.lst (fs.map fun l => .lst (l.map .int))) st' ∧ fs.Perm ds ∧ Gn g (b + ds.length) st' ∧ Fix g st st' := by
  rw [rn_succ lk__law_drawn_order]
  have hgl : g < st.length := by obtain ⟨_, _, _, e, _⟩ := hg; exact lt_of_get e
  obtain ⟨ρ', st', e, ls, fs, rfl, H⟩ := whl_fold (t := fun ρ st => (ev (cx (n + 2)) (.cmp .ne (.nm 2) (.lst .nil)) ρ st).bind fun x st => ofO (tb x) st) (f := exs (cx (n + 2)) l__law_drawn_order_0) (invO g b st ds)
    (fun i ρ st' h => t_drawn_order hgl hl hb h) (fun ρ st' h => by
      obtain ⟨ls, fs, rfl, H⟩ := h
      have q1 := eq_C0 (xs := ls) (f := fun l => .lst (l.map .int)) H.cl (fun _ _ => lot_nice)
      have hne : ls = [] := List.length_eq_zero_iff.mp H.nl
      rw [hne] at q1
      simp [q1]) ds.length 400 [some (.cel g), some (.lst (ds.map fun l => .lst (l.map .int))), some (.cel st.length), some (.cel (st.length + 1))] (st ++ [.lst (ds.map fun l => .lst (l.map .int)), .lst []]) (by omega) ⟨ds, [], rfl, three_a, three_c, by simpa using hg.app _, Fix.app _ _ _, rfl, Nat.le_refl _, by simp⟩
  have hls : ls = [] := List.length_eq_zero_iff.mp H.nl
  refine ⟨fs, st'.set (st.length + 1) .gone, ?_, by have := H.pm; rwa [hls] at this, (by simpa using H.gn.set (by omega) _), H.fx.setBig (Nat.le_succ _) _⟩
  simp [-x_cmp, b__law_drawn_order, e, H.cf]
end L
end MP
end
section
set_option maxRecDepth 100000
set_option maxHeartbeats 4000000
namespace MP
namespace L
open PySem PySem.Builtin.Str
/-! ### the law's own lots, sides, shells -/
def lotsP : Nat → List (List Int)
  | 0 => [[]]
  | m + 1 => lotsP m ++ (lotsP m).map fun l => l ++ [(m : Int)]
theorem lotsP_len : ∀ m, (lotsP m).length = 2 ^ m
  | 0 => rfl
  | m + 1 => by
    rw [lotsP, List.length_append, List.length_map, lotsP_len m]
    omega
theorem lotsP_fold : ∀ k, (List.range k).foldl (fun (s : List (List Int)) (i : Nat) => s ++ s.map fun l => l ++ [(i : Int)]) [[]] = lotsP k
  | 0 => rfl
  | k + 1 => by
    rw [List.range_succ, List.foldl_append, lotsP_fold k]
    rfl
theorem lotsP_item : ∀ (m : Nat) (l : List Int), l ∈ lotsP m → l.length ≤ m ∧ ∀ i ∈ l, 0 ≤ i ∧ i < m
  | 0, l, h => by
    have h : l = [] := by simpa [lotsP] using h
    subst h
    simp
  | m + 1, l, h => by
    rw [lotsP] at h
    rcases List.mem_append.mp h with h | h
    · obtain ⟨h1, h2⟩ := lotsP_item m l h
      exact ⟨by omega, fun i hi => ⟨(h2 i hi).1, by have := (h2 i hi).2; omega⟩⟩
    · obtain ⟨l', h', rfl⟩ := List.mem_map.mp h
      obtain ⟨h1, h2⟩ := lotsP_item m l' h'
      refine ⟨by simp; omega, fun i hi => ?_⟩
      rcases List.mem_append.mp hi with hi | hi
      · exact ⟨(h2 i hi).1, by have := (h2 i hi).2; omega⟩
      · rw [List.mem_singleton.mp hi]
        omega
def invLots (k : Nat) (st0 : Store) (i : Nat) (s : List (List Int)) (ρ : Sl) (st : Store) : Prop := (∃ o2, ρ = [some (.int k), some (.lst (s.map fun l => .lst (l.map .int))), o2, none]) ∧ st = st0 ∧ s.length ≤ 2 ^ i ∧ ∀ l ∈ s, l.length ≤ i
theorem s_law_lots {n k : Nat} {st : Store} (hk : k ≤ 8) : rn (n + 1) f__law_lots [.int k] st = .ok (.lst ((lotsP k).map fun l => .lst (l.map .int))) st := by
  rw [rn_succ lk__law_lots]
  obtain ⟨ρ', st', e, ⟨o2, rfl⟩, rfl, h1, h2⟩ := for_fold (α := Nat) (enc := fun (k : Nat) => D.int k) (w := { its := (List.range k).map fun (k : Nat) => D.int k }) (f := forT (cx n) [2] false l__law_lots_0) (invLots k st) (fun s i => s ++ s.map fun l => l ++ [(i : Int)]) (n := 8) (fun _ _ _ _ _ => rfl) (List.range k) 0 [[]]
    [some (.int k), some (.lst [.lst []]), none, none] st (by simpa using hk) (fun x hx i s ρ st' hi h => by
      obtain ⟨⟨o2, rfl⟩, rfl, h1, h2⟩ := h
      have h256 : 2 ^ i ≤ 256 := Nat.le_trans (Nat.pow_le_pow_right (by omega) (show i ≤ 8 by omega)) (by decide)
      simp [l__law_lots_0]
      rw [lcR_ok (F := fun l => .lst ((l ++ [(x : Int)]).map .int)) (by unfold line; omega)]
      · simp only [R.bind_ok]
        rw [bin_LL (by simp; unfold line; omega)]
        simp [invLots]
        refine ⟨by omega, fun l hl => ?_⟩
        rcases hl with hl | ⟨a, ha, rfl⟩
        · have := h2 l hl; omega
        · have := h2 a ha; simp; omega
      · intro l hl
        have := h2 l hl
        simp
        rw [bin_LL (by simp; unfold line; omega)]
        simp) ⟨⟨none, rfl⟩, rfl, by simp, by simp⟩
  rw [lotsP_fold] at e
  simp [b__law_lots, e, show (k : Int) < 4611686018427387904 by omega]
def wit (a b : List Int) : Bool := allB (a.map fun i => decide (i ∈ b))
@[simp] theorem s_law_in {n : Nat} {a b : List Int} {st : Store} (hl : a.length ≤ line) : rn (n + 1) f__law_in [.lst (a.map .int), .lst (b.map .int)] st = .ok (.bl (wit a b)) st := by
  rw [rn_succ lk__law_in]
  simp [b__law_in, hl, wit]
  rw [allB_map, Bool.eq_iff_iff]
  simp
/-- tops of a small body -/
structure Tops (tops : List (List Int)) : Prop where
  len : tops.length ≤ 50
  top : ∀ t ∈ tops, t.length ≤ 10
end L
end MP
end
section
set_option maxRecDepth 100000
set_option maxHeartbeats 4000000
namespace MP
namespace L
open PySem PySem.Builtin.Str
/-! ### ways to choose -/
def cho : Nat → Nat → Nat
  | _, 0 => 1
  | 0, _ + 1 => 0
  | a + 1, b + 1 => cho a (b + 1) + cho a b
theorem cho_lt : ∀ {a b : Nat}, a < b → cho a b = 0
  | 0, b + 1, _ => rfl
  | a + 1, b + 1, h => by rw [cho, cho_lt (show a < b + 1 by omega), cho_lt (show a < b by omega)]
def choF (a : Int) (b : Nat) : Int := (List.range b).foldl (fun f (k : Nat) => f * (a - k) / ((k : Int) + 1)) 1
theorem cho_eq : ∀ a : Nat, a ≤ 8 → ∀ b : Nat, b ≤ 8 → (if b ≤ a then choF a b else 0) = (cho a b : Int) := by
  have h : (List.range 9).all (fun (a : Nat) => (List.range 9).all fun (b : Nat) => decide ((if b ≤ a then choF a b else 0) = (cho a b : Int))) = true := by decide +kernel
  intro a ha b hb
  have h1 := List.all_eq_true.mp h a (List.mem_range.mpr (by omega))
  have h2 := List.all_eq_true.mp h1 b (List.mem_range.mpr (by omega))
  simpa using h2
theorem s_choices {n a b : Nat} {st : Store} (ha : a ≤ 8) (hb : b ≤ 8) : rn (n + 1) f_choices [.int a, .int b] st = .ok (.int (cho a b)) st := by
  rw [rn_succ lk_choices]
  obtain ⟨ρ', st', e, ⟨o3, rfl⟩, rfl⟩ := for_fold (α := Nat) (enc := fun (k : Nat) => D.int k) (w := { its := (List.range b).map fun (k : Nat) => D.int k }) (f := forT (cx n) [3] false l_choices_0) (fun _ (s : Int) ρ st' => (∃ o3, ρ = [some (.int a), some (.int b), some (.int s), o3]) ∧ st' = st) (fun f (k : Nat) => f * ((a : Int) - k) / ((k : Int) + 1)) (n := 8) (fun _ _ _ _ _ => rfl) (List.range b) 0 1
    [some (.int a), some (.int b), some (.int 1), none] st (by simpa using hb) (fun x hx i s ρ st' hi h => by
      obtain ⟨⟨o3, rfl⟩, rfl⟩ := h
      have hx := List.mem_range.mp hx
      have m1 : binI .mul s ((a : Int) - x) = some (.int (s * ((a : Int) - x))) := bi_mul (.inr (by omega))
      have m2 : ∀ t, binI .fdv t ((x : Int) + 1) = some (.int (t / ((x : Int) + 1))) := fun t => bi_fdv (by omega) (by omega)
      simp [l_choices_0, m1, m2]) ⟨⟨none, rfl⟩, rfl⟩
  have he := cho_eq a ha b hb
  simp [b_choices, e, show (b : Int) < 4611686018427387904 by omega]
  rw [← he]
  show (if _ then _ else _) = _
  by_cases h : b ≤ a
  · simp [h, show (b : Int) ≤ (a : Int) by omega]
    rfl
  · simp [h, show ¬ (b : Int) ≤ (a : Int) by omega]
/-! ### the program's lots -/
def tupL (l : List Int) : D := .tup [.int l.length, .lst (l.map .int)]
def tle (a b : List Int) : Bool := PySem.W.dataLe false toP (tupL a) (tupL b)
theorem alike_ints' : ∀ a b : List Int, W.alikeAll ((a.map D.int).map toP) ((b.map D.int).map toP) = true
  | [], b => by simp [W.alikeAll]
  | _ :: _, [] => by simp [W.alikeAll]
  | x :: a, y :: b => by
    simp only [List.map_cons, W.alikeAll, toP_int, W.alike, alike_ints' a b]
    rfl
theorem sort_T {st : Store} {ls : List (List Int)} (hl : ls.length ≤ line) : sortD st (.lst (ls.map tupL)) = some (.lst ((ls.mergeSort tle).map tupL)) := by
  have hp : pureD (.lst (ls.map tupL)) = true := by
    rw [pu_lst]
    exact pu_map fun l => by simp [tupL, pu_map]
  unfold sortD
  rw [snap_pure hp]
  have h1 : alikeAll (toPs (ls.map tupL)) = true := by
    unfold alikeAll
    rw [toPs_map, List.map_map, List.all_eq_true]
    intro x hx
    obtain ⟨a, _, rfl⟩ := List.mem_map.mp hx
    rw [List.all_eq_true]
    intro y hy
    obtain ⟨b, _, rfl⟩ := List.mem_map.mp hy
    show W.alike (toP (tupL a)) (toP (tupL b)) = true
    unfold tupL
    rw [toP_tup, toP_tup]
    simp only [W.alike, List.map_cons, List.map_nil, W.alikeAll, toP_int, toP_lst, alike_ints' a b]
    rfl
  have h2 : sortB (toPs (ls.map tupL)) = true := by
    unfold sortB
    rw [toPs_map, List.map_map, Bool.or_eq_true]
    left
    rw [List.all_eq_true]
    intro x hx
    obtain ⟨a, _, rfl⟩ := List.mem_map.mp hx
    show (match toP (tupL a) with | .tuple (_ :: _) => true | _ => false) = true
    unfold tupL
    rw [toP_tup]
    rfl
  have h3 : deepOk (toPs (ls.map tupL)) = true := by
    unfold deepOk
    rw [toPs_map, List.map_map, List.all_eq_true]
    intro x hx
    obtain ⟨a, _, rfl⟩ := List.mem_map.mp hx
    rw [decide_eq_true_eq]
    show (toP (tupL a)).depth ≤ 64
    unfold tupL
    rw [toP_tup]
    simp only [PyData.depth]
    refine Nat.le_trans (Nat.succ_le_succ (depthAll_le (n := 60) _ fun y hy => ?_)) (by decide)
    simp only [List.map_cons, List.map_nil, List.mem_cons, List.not_mem_nil, or_false] at hy
    rcases hy with rfl | rfl
    · exact int_nice.2.2
    · exact lot_nice.2.2
  show (if _ then _ else _) = _
  rw [h1, h2, h3, if_pos (by simpa using hl)]
  congr 2
  rw [List.map_mergeSort (s := PySem.W.dataLe false toP)]
  exact fun a _ b _ => rfl
def lotsX (k : Nat) : List (List Int) := (lotsP k).mergeSort tle
theorem lotsX_perm (k : Nat) : (lotsX k).Perm (lotsP k) := List.mergeSort_perm _ _
theorem s_lots_ofX {n k : Nat} {st : Store} (hk : k ≤ 8) : rn (n + 1) f_lots_of [.int k] st = .ok (.lst ((lotsX k).map fun l => .lst (l.map .int))) st := by
  rw [rn_succ lk_lots_of]
  obtain ⟨ρ', st', e, ⟨o2, o3, rfl⟩, rfl, h1, h2⟩ := for_fold (α := Nat) (enc := fun (k : Nat) => D.int k) (w := { its := (List.range k).map fun (k : Nat) => D.int k }) (f := forT (cx n) [2] false l_lots_of_0) (fun i s ρ st' => (∃ o2 o4, ρ = [some (.int k), some (.lst (s.map fun l => .lst (l.map .int))), o2, none, o4]) ∧ st' = st ∧ s.length ≤ 2 ^ i ∧ ∀ l ∈ s, l.length ≤ i) (fun s i => s ++ s.map fun l => l ++ [(i : Int)]) (n := 8) (fun _ _ _ _ _ => rfl) (List.range k) 0 [[]]
    [some (.int k), some (.lst [.lst []]), none, none, none] st (by simpa using hk) (fun x hx i s ρ st' hi h => by
      obtain ⟨⟨o2, o3, rfl⟩, rfl, h1, h2⟩ := h
      have h256 : 2 ^ i ≤ 256 := Nat.le_trans (Nat.pow_le_pow_right (by omega) (show i ≤ 8 by omega)) (by decide)
      simp [l_lots_of_0]
      rw [lcR_ok (F := fun l => .lst ((l ++ [(x : Int)]).map .int)) (by unfold line; omega)]
      · simp only [R.bind_ok]
        rw [bin_LL (by simp; unfold line; omega)]
        simp
        refine ⟨by omega, fun l hl => ?_⟩
        rcases hl with hl | ⟨a, ha, rfl⟩
        · have := h2 l hl; omega
        · have := h2 a ha; simp; omega
      · intro l hl
        have := h2 l hl
        simp
        rw [bin_LL (by simp; unfold line; omega)]
        simp) ⟨⟨none, none, rfl⟩, rfl, by simp, by simp⟩
  rw [lotsP_fold] at e
  unfold lotsX
  have hlen : (lotsP k).length ≤ 256 := by rw [lotsP_len]; exact Nat.le_trans (Nat.pow_le_pow_right (by omega) hk) (by decide)
  simp [b_lots_of, e, show (k : Int) < 4611686018427387904 by omega]
  rw [lcR_ok (F := tupL) (by unfold line; omega)]
  · simp [sort_T (show (lotsP k).length ≤ line by unfold line; omega)]
    rw [lcR_ok (F := fun l => .lst (l.map .int)) (by simp; unfold line; omega)]
    · simp
    · intro l hl
      simp [tupL]
  · intro l hl
    simp [tupL]
theorem s_lots_of {n k : Nat} {st : Store} (hk : k ≤ 8) : ∃ L : List (List Int), rn (n + 1) f_lots_of [.int k] st = .ok (.lst (L.map fun l => .lst (l.map .int))) st ∧ L.Perm (lotsP k) := ⟨lotsX k, s_lots_ofX hk, lotsX_perm k⟩
end L
end MP
end
section
set_option maxRecDepth 100000
set_option maxHeartbeats 4000000
namespace MP
namespace L
open PySem PySem.Builtin.Str
@[simp] theorem s_is_whole {n : Nat} {i : Int} {st : Store} : rn (n + 1) f_is_whole [.int i] st = .ok (.bl true) st := by
  rw [rn_succ lk_is_whole]
  simp [b_is_whole]
@[simp] theorem con_tops : conOf nums g_MOST_TOPS = some (.int 20) := (rfl)
@[simp] theorem con_points : conOf nums g_MOST_POINTS = some (.int 7) := (rfl)
@[simp] theorem s_is_many {n : Nat} {m : Int} {st : Store} : rn (n + 2) f_is_many [.int m] st = .ok (.bl (decide (1 ≤ m) && decide (m ≤ 7))) st := by
  rw [rn_succ lk_is_many]
  simp [b_is_many]
def asc (l : List Int) : Bool := allB ((List.range (l.length - 1)).map fun k => decide (l[k]?.getD 0 < l[k + 1]?.getD 0))
def inM (many : Int) (l : List Int) : Bool := allB (l.map fun i => decide (0 ≤ i) && decide (i < many))
def lotB (many : Int) (l : List Int) : Bool := inM many l && asc l
@[simp] theorem s_is_lot_by {n : Nat} {many : Int} {l : List Int} {st : Store} (hl : l.length ≤ line) : rn (n + 2) f_is_lot_by [.int many, .lst (l.map .int)] st = .ok (.bl (lotB many l)) st := by
  rw [rn_succ lk_is_lot_by]
  simp [b_is_lot_by, hl]
  rw [lcR_ok (F := fun k => .bl (decide (l[k]?.getD 0 < l[k + 1]?.getD 0)))]
  · simp
    unfold lotB inM asc
    cases allB (l.map fun i => decide (0 ≤ i) && decide (i < many)) <;> simp
  · simp; omega
  · intro k hk
    have hk := List.mem_range.mp hk
    simp [List.getElem?_eq_getElem (show k < l.length by omega), List.getElem?_eq_getElem (show k + 1 < l.length by omega)]
@[simp] theorem s_is_within {n : Nat} {a b : List Int} {st : Store} (hl : a.length ≤ line) : rn (n + 1) f_is_within [.lst (a.map .int), .lst (b.map .int)] st = .ok (.bl (wit a b)) st := by
  rw [rn_succ lk_is_within]
  simp [b_is_within, hl, wit]
/-! ### what lots are -/
theorem wit_iff {a b : List Int} : wit a b = true ↔ ∀ i ∈ a, i ∈ b := by
  unfold wit
  rw [allB_map, List.all_eq_true]
  simp
theorem lotsP_pw : ∀ (m : Nat) (l : List Int), l ∈ lotsP m → l.Pairwise (· < ·)
  | 0, l, h => by
    have h : l = [] := by simpa [lotsP] using h
    subst h
    exact List.Pairwise.nil
  | m + 1, l, h => by
    rw [lotsP] at h
    rcases List.mem_append.mp h with h | h
    · exact lotsP_pw m l h
    · obtain ⟨l', h', rfl⟩ := List.mem_map.mp h
      rw [List.pairwise_append]
      refine ⟨lotsP_pw m l' h', List.pairwise_singleton _ _, fun a ha b hb => ?_⟩
      rw [List.mem_singleton.mp hb]
      exact ((lotsP_item m l' h').2 a ha).2
theorem asc_of {l : List Int} (h : l.Pairwise (· < ·)) : asc l = true := by
  unfold asc
  rw [allB_map, List.all_eq_true]
  intro k hk
  have hk := List.mem_range.mp hk
  rw [List.getElem?_eq_getElem (show k < l.length by omega), List.getElem?_eq_getElem (show k + 1 < l.length by omega)]
  simp
  exact List.pairwise_iff_getElem.mp h k (k + 1) (by omega) (by omega) (by omega)
theorem lotB_of {m : Nat} {l : List Int} (h : l ∈ lotsP m) : lotB m l = true := by
  unfold lotB
  rw [asc_of (lotsP_pw m l h)]
  unfold inM
  rw [allB_map, Bool.and_true, List.all_eq_true]
  intro i hi
  have := (lotsP_item m l h).2 i hi
  simp
  exact this
theorem lotsP_wit : ∀ (m : Nat) (a b : List Int), a ∈ lotsP m → b ∈ lotsP m → wit a b = true → a.length ≤ b.length ∧ (a.length = b.length → a = b)
  | 0, a, b, ha, hb, _ => by
    have ha : a = [] := by simpa [lotsP] using ha
    have hb : b = [] := by simpa [lotsP] using hb
    subst ha hb
    simp
  | m + 1, a, b, ha, hb, hw => by
    rw [wit_iff] at hw
    rw [lotsP] at ha hb
    rcases List.mem_append.mp ha with ha | ha <;> rcases List.mem_append.mp hb with hb | hb
    · exact lotsP_wit m a b ha hb (wit_iff.mpr hw)
    · obtain ⟨b', hb', rfl⟩ := List.mem_map.mp hb
      have h1 := lotsP_wit m a b' ha hb' (wit_iff.mpr fun i hi => by
        rcases List.mem_append.mp (hw i hi) with h | h
        · exact h
        · have := ((lotsP_item m a ha).2 i hi).2
          rw [List.mem_singleton.mp h] at this
          omega)
      simp
      omega
    · obtain ⟨a', ha', rfl⟩ := List.mem_map.mp ha
      have h1 := ((lotsP_item m b hb).2 m (hw m (by simp))).2
      omega
    · obtain ⟨a', ha', rfl⟩ := List.mem_map.mp ha
      obtain ⟨b', hb', rfl⟩ := List.mem_map.mp hb
      have h1 := lotsP_wit m a' b' ha' hb' (wit_iff.mpr fun i hi => by
        rcases List.mem_append.mp (hw i (List.mem_append_left _ hi)) with h | h
        · exact h
        · have := ((lotsP_item m a' ha').2 i hi).2
          rw [List.mem_singleton.mp h] at this
          omega)
      simp
      refine ⟨h1.1, fun e => ?_⟩
      rw [h1.2 e]
theorem lex_irr (a : List Int) : HT.lexLt a a = false := by
  cases h : HT.lexLt a a with
  | false => rfl
  | true => rw [← NtL.lex_asym _ _ h, h]
/-- a body whose tops have d points each -/
structure Bd (m d : Nat) (tops : List (List Int)) : Prop where
  m1 : 1 ≤ m
  m7 : m ≤ 7
  d1 : 1 ≤ d
  len : tops.length ≤ 20
  lot : ∀ t ∈ tops, t ∈ lotsP m ∧ t.length = d
  ord : tops.Pairwise fun a b => HT.lexLt a b = true
theorem Bd.tlen {m d : Nat} {tops : List (List Int)} (h : Bd m d tops) : ∀ t ∈ tops, t.length ≤ 7 := fun t ht => Nat.le_trans (lotsP_item m t (h.lot t ht).1).1 h.m7
theorem Bd.tops {m d : Nat} {tops : List (List Int)} (h : Bd m d tops) : Tops tops := ⟨by have := h.len; omega, fun t ht => by have := h.tlen t ht; omega⟩
theorem Bd.nd {m d : Nat} {tops : List (List Int)} (h : Bd m d tops) : tops.Nodup := h.ord.imp fun {a b} hab e => by
  rw [e, lex_irr] at hab
  cases hab
theorem Bd.notin {m d : Nat} {tops : List (List Int)} (h : Bd m d tops) {a b : List Int} (ha : a ∈ tops) (hb : b ∈ tops) (hn : a ≠ b) : wit a b = false := by
  cases hw : wit a b with
  | false => rfl
  | true =>
    have h1 := lotsP_wit m a b (h.lot a ha).1 (h.lot b hb).1 hw
    exact absurd (h1.2 (by rw [(h.lot a ha).2, (h.lot b hb).2])) hn
def bodyD (m : Nat) (tops : List (List Int)) : D := .tup [.str (Str.ofString "complex"), .int m, .lst (tops.map fun l => .lst (l.map .int))]
@[simp] theorem fr_bodyD {m : Nat} {tops : List (List Int)} : freeD (bodyD m tops) = true := by simp [bodyD]
theorem okComplex : okZ (Str.ofString "complex") := qokS (by decide +kernel)
theorem mem_but {tops : List (List Int)} {k : Nat} {o : List Int} (hk : k < tops.length) (hn : tops.Nodup) (ho : o ∈ tops.take k ++ tops.drop (k + 1)) : o ∈ tops ∧ o ≠ tops[k] := by
  rcases List.mem_append.mp ho with h | h
  · refine ⟨List.mem_of_mem_take h, fun e => ?_⟩
    obtain ⟨j, hj, e2⟩ := List.mem_iff_getElem.mp h
    rw [List.getElem_take] at e2
    rw [List.length_take] at hj
    have := (List.getElem_inj hn).mp (e2.trans e)
    omega
  · refine ⟨List.mem_of_mem_drop h, fun e => ?_⟩
    obtain ⟨j, hj, e2⟩ := List.mem_iff_getElem.mp h
    rw [List.getElem_drop] at e2
    have := (List.getElem_inj hn).mp (e2.trans e)
    omega
theorem cut_but {α : Type} {xs : List α} {k : Nat} : cutL xs none (some (k : Int)) ++ cutL xs (some ((k : Int) + 1)) none = xs.take k ++ xs.drop (k + 1) := by
  rw [cutL_head, cutL_tailS]
theorem s_is_complex_by {n m d : Nat} {tops : List (List Int)} {st : Store} (h : Bd m d tops) : rn (n + 4) f_is_complex_by [bodyD m tops] st = .ok (.bl true) st := by
  rw [rn_succ lk_is_complex_by]
  have hlen := h.len
  have hlot : ∀ t ∈ tops, rn (n + 3) f_is_lot_by [.int m, .lst (t.map .int)] [] = .ok (.bl true) [] := fun t ht => by
    rw [s_is_lot_by (n := n + 1) (by have := h.tlen t ht; unfold line; omega), lotB_of (h.lot t ht).1]
  simp [b_is_complex_by, bodyD, okComplex, show (1 : Int) ≤ m by have := h.m1; omega, show (m : Int) ≤ 7 by have := h.m7; omega, show ¬ (20 : Int) < tops.length by omega]
  rw [lcR_ok (F := fun _ => .bl true) (by unfold line; omega)]
  · simp [allB_true, show (tops.length : Int) < 4611686018427387904 by omega]
    rw [lcR_ok (F := fun _ => .bl true) (by simp; unfold line; omega)]
    · simp [allB_true]
      obtain ⟨ρ', st', e, ⟨o2, o3, rfl⟩, rfl⟩ := for_fold (α := List Int × Nat) (enc := fun q => .tup [.int q.2, .lst (q.1.map .int)]) (w := { its := tops.zipIdx.map fun q => .tup [.int q.2, .lst (q.1.map .int)] }) (f := forT (cx (n + 3)) [3, 2] true l_is_complex_by_0) (fun _ (_ : Unit) ρ st' => (∃ o2 o3, ρ = [some (bodyD m tops), some (.lst (tops.map fun l => .lst (l.map .int))), o2, o3, none]) ∧ st' = st) (fun _ _ => ()) (n := tops.length) (fun _ _ _ _ _ => rfl) tops.zipIdx 0 ()
        [some (bodyD m tops), some (.lst (tops.map fun l => .lst (l.map .int))), none, none, none] st (by simp) (fun q hq i s ρ st' hi h' => by
          obtain ⟨⟨o2, o3, rfl⟩, rfl⟩ := h'
          obtain ⟨t, k⟩ := q
          have hq2 := List.mem_zipIdx' hq
          obtain ⟨hk, et⟩ := hq2
          have ht : t ∈ tops := et ▸ List.getElem_mem _
          simp [l_is_complex_by_0]
          rw [← List.map_take, ← List.map_drop, bin_LL (by simp; unfold line; omega), ← List.map_append]
          simp only [ofO_some, R.bind_ok, lisW_lst, lcW_non, lcR_mapI]
          rw [lcR_ok (F := fun _ => .bl false) (by simp; unfold line; omega)]
          · generalize tops.take k ++ tops.drop (k + 1) = Z
            simp [anyB_map]
          · intro o ho
            obtain ⟨h1, h2⟩ := mem_but hk h.nd ho
            have h3 := h.notin ht h1 (fun e => h2 (by rw [← e, et]))
            simp [show t.length ≤ line by have := h.tlen t ht; unfold line; omega, h3]) ⟨⟨none, none, rfl⟩, rfl⟩
      simp only [bodyD] at e
      simp [pairs_map, e]
    · intro k hk
      have hk := List.mem_range.mp hk
      have hp := List.pairwise_iff_getElem.mp h.ord k (k + 1) (by omega) (by omega) (by omega)
      simp [List.getElem?_eq_getElem (show k < tops.length by omega), List.getElem?_eq_getElem (show k + 1 < tops.length by omega), hp]
  · intro t ht
    have h1 := h.d1
    have h2 := (h.lot t ht).2
    have : t ≠ [] := by intro e; rw [e] at h2; simp at h2; omega
    simp [hlot t ht, this]
theorem s_check_even {n m d : Nat} {tops : List (List Int)} {st : Store} (h : Bd m d tops) : rn (n + 6) f_check_even [bodyD m tops] st = .ok .non st := by
  rw [rn_succ lk_check_even]
  have e1 : rn (n + 5) f_check_complex [bodyD m tops] [] = .ok .non [] := by
    rw [rn_succ lk_check_complex]
    simp [b_check_complex, s_is_complex_by h]
  have hlen := h.len
  simp [b_check_even, e1]
  rw [show bodyD m tops = .tup [.str (Str.ofString "complex"), .int m, .lst (tops.map fun l => .lst (l.map .int))] from rfl]
  simp
  rw [lcR_ok (F := fun _ => .bl false) (by unfold line; omega)]
  · simp [anyB_map]
  · intro t ht
    cases tops with
    | nil => cases ht
    | cons t0 r =>
      have h1 := (h.lot t ht).2
      have h2 := (h.lot t0 List.mem_cons_self).2
      simp [h1, h2]
/-- a face -/
def hasP (tops : List (List Int)) (l : List Int) : Bool := !decide (l = []) && anyB (tops.map fun t => wit l t)
theorem s_has_face {n m : Nat} {tops : List (List Int)} {l : List Int} {st : Store} (ht : tops.length ≤ 50) (hl : l.length ≤ 50) : rn (n + 2) f_has_face [bodyD m tops, .lst (l.map .int)] st = .ok (.bl (hasP tops l)) st := by
  rw [rn_succ lk_has_face]
  simp [b_has_face, bodyD, show l.length ≤ line by unfold line; omega, show tops.length ≤ line by unfold line; omega, hasP]
theorem s_faces_by {n m : Nat} {tops : List (List Int)} {st : Store} (hm : m ≤ 7) (ht : tops.length ≤ 50) : ∃ L : List (List Int), rn (n + 3) f_faces_by [bodyD m tops] st = .ok (.lst ((L.filter (hasP tops)).map fun l => .lst (l.map .int))) st ∧ L.Perm (lotsP m) := by
  obtain ⟨L, e, hL⟩ := s_lots_of (n := n + 1) (k := m) (st := []) (by omega)
  refine ⟨L, ?_, hL⟩
  have hl : L.length ≤ 128 := by rw [hL.length_eq, lotsP_len]; exact Nat.le_trans (Nat.pow_le_pow_right (by omega) hm) (by decide)
  rw [rn_succ lk_faces_by]
  have hf : ∀ l ∈ L, rn (n + 2) f_has_face [bodyD m tops, .lst (l.map .int)] [] = .ok (.bl (hasP tops l)) [] := fun l hl2 => s_has_face ht (by have := (lotsP_item m l (hL.mem_iff.mp hl2)).1; omega)
  simp [b_faces_by]
  rw [show subD st (bodyD m tops) (.int 1) = some (.int m) from rfl]
  simp [e]
  rw [lcR_if (p := hasP tops) (F := fun l => .lst (l.map .int)) (by unfold line; omega)]
  · simp
  · intro l hl2
    simp [hf l hl2]
/-- how many faces have so many points -/
def fN (m : Nat) (tops : List (List Int)) (k : Nat) : Nat := ((lotsP m).filter fun l => hasP tops l && decide (l.length = k)).length
theorem s_faces_at {n m k : Nat} {tops : List (List Int)} {st : Store} (hm : m ≤ 7) (ht : tops.length ≤ 50) : ∃ L : List (List Int), rn (n + 4) f_faces_at [bodyD m tops, .int k] st = .ok (.lst (L.map fun l => .lst (l.map .int))) st ∧ L.length = fN m tops (k + 1) ∧ L.length ≤ 128 := by
  obtain ⟨L, e, hL⟩ := s_faces_by (n := n) (m := m) (tops := tops) (st := []) hm ht
  have hl : L.length ≤ 128 := by rw [hL.length_eq, lotsP_len]; exact Nat.le_trans (Nat.pow_le_pow_right (by omega) hm) (by decide)
  refine ⟨(L.filter (hasP tops)).filter fun l => decide (l.length = k + 1), ?_, ?_, ?_⟩
  · rw [rn_succ lk_faces_at]
    simp [b_faces_at, e]
    rw [lcR_if (p := fun l => decide (l.length = k + 1)) (F := fun l => .lst (l.map .int)) (Nat.le_trans (List.length_filter_le _ _) (by unfold line; omega))]
    · simp
    · intro l hl2
      simp
      by_cases h : l.length = k + 1
      · simp [h]
      · simp [h, show ¬ (l.length : Int) = (k : Int) + 1 by omega]
  · unfold fN
    rw [List.filter_filter]
    refine (List.Perm.length_eq ((hL.filter _).trans ?_))
    rw [show (fun l => decide (l.length = k + 1) && hasP tops l) = fun l => hasP tops l && decide (l.length = k + 1) from funext fun l => Bool.and_comm _ _]
  · exact Nat.le_trans (List.length_filter_le _ _) (Nat.le_trans (List.length_filter_le _ _) hl)
theorem maxI_cons {a : Int} {r : List Int} (h : r ≠ []) : maxI (a :: r) = (maxI r).map fun b => if a < b then b else a := by
  cases r with
  | nil => exact absurd rfl h
  | cons b r => rfl
theorem maxI_all {d : Int} (h0 : 0 ≤ d) : ∀ (ns : List Int), (∀ x ∈ ns, x = d) → maxI (ns ++ [0]) = some (if ns = [] then 0 else d)
  | [], _ => rfl
  | a :: r, h => by
    have ha : a = d := h a List.mem_cons_self
    subst ha
    rw [List.cons_append, maxI_cons (by simp), maxI_all h0 r fun x hx => h x (List.mem_cons_of_mem _ hx)]
    by_cases hr : r = []
    · simp [hr]
      omega
    · simp [hr]
theorem s_dimension_of {n m d : Nat} {tops : List (List Int)} {st : Store} (h : Bd m d tops) : rn (n + 1) f_dimension_of [bodyD m tops] st = .ok (.int ((if tops = [] then 0 else (d : Int)) - 1)) st := by
  rw [rn_succ lk_dimension_of]
  have hlen := h.len
  simp [b_dimension_of]
  rw [show subD st (bodyD m tops) (.int 2) = some (.lst (tops.map fun l => .lst (l.map .int))) from rfl]
  simp
  rw [lcR_ok (F := fun (t : List Int) => .int t.length) (by unfold line; omega)]
  · simp
    rw [bin_LL (by simp; unfold line; omega)]
    have eq : (tops.map fun (t : List Int) => D.int t.length) ++ [D.int 0] = ((tops.map fun (t : List Int) => (t.length : Int)) ++ [0]).map D.int := by simp [List.map_map]
    have hmax : ∀ st, bltD st .max [.lst ((tops.map fun (t : List Int) => D.int t.length) ++ [D.int 0])] = some (.int (if tops = [] then 0 else (d : Int))) := fun st => by
      rw [eq]
      show ((items st (.lst (((tops.map fun (t : List Int) => (t.length : Int)) ++ [0]).map D.int))).bind intsD).bind (fun ns => (maxI ns).map D.int) = _
      rw [it_lst, Option.bind_some, intsD_int, Option.bind_some, maxI_all (d := d) (by omega) _ (fun x hx => by
        obtain ⟨t, ht, rfl⟩ := List.mem_map.mp hx
        rw [(h.lot t ht).2])]
      simp
    simp [hmax]
  · intro t ht
    simp
/-! ### h-numbers -/
def sgn (k : Nat) : Int := if k % 2 = 0 then 1 else -1
/-- the sum at a place -/
def hAt (c : Nat → Int) (size at' : Nat) : Int := ((List.range (at' + 1)).map fun k => sgn (at' - k) * (cho (size - k) (at' - k) : Int) * c k).sum
theorem s_is_odd {n : Nat} {k : Nat} {st : Store} : rn (n + 1) f_is_odd [.int k] st = .ok (.bl (decide (k % 2 = 1))) st := by
  rw [rn_succ lk_is_odd]
  simp [b_is_odd]
  omega
theorem sum_fold (g : Nat → Int) (o : Nat → Bool) : ∀ (xs : List Nat) (w : Int), xs.foldl (fun w k => if o k then w - g k else w + g k) w = w + (xs.map fun k => (if o k then -1 else 1) * g k).sum
  | [], w => by simp
  | x :: xs, w => by
    rw [List.foldl_cons, sum_fold g o xs]
    by_cases h : o x = true
    · simp [h]; omega
    · simp [h]; omega
theorem t_h_by {n size at' : Nat} {cs : List Int} {o2 o5 o6 : Option D} {w0 : Int} {st : Store} (hs : size ≤ 7) (ha : at' ≤ size) (hc : cs.length = size + 1) (hb : ∀ c ∈ cs, -1000000 ≤ c ∧ c ≤ 1000000) :
    ∃ b5 b6, forGo { its := (List.range (at' + 1)).map fun (k : Nat) => D.int k } (forT (cx (n + 1)) [5] false l_h_by_0) ((List.range (at' + 1)).map fun (k : Nat) => D.int k) [some (.lst (cs.map .int)), some (.int size), o2, some (.int at'), some (.int 0), o5, o6] st
      = .nx [some (.lst (cs.map .int)), some (.int size), o2, some (.int at'), some (.int (hAt (fun k => (cs[k]?).getD 0) size at')), b5, b6] st := by
  obtain ⟨ρ', st', e, ⟨b5, b6, rfl⟩, rfl⟩ := for_fold (α := Nat) (enc := fun (k : Nat) => D.int k) (w := { its := (List.range (at' + 1)).map fun (k : Nat) => D.int k }) (f := forT (cx (n + 1)) [5] false l_h_by_0) (fun _ (s : Int) ρ st' => (∃ b5 b6, ρ = [some (.lst (cs.map .int)), some (.int size), o2, some (.int at'), some (.int s), b5, b6]) ∧ st' = st) (fun w k => if decide ((at' - k) % 2 = 1) then w - (cho (size - k) (at' - k) : Int) * (cs[k]?).getD 0 else w + (cho (size - k) (at' - k) : Int) * (cs[k]?).getD 0) (n := at' + 1) (fun _ _ _ _ _ => rfl) (List.range (at' + 1)) 0 0
    [some (.lst (cs.map .int)), some (.int size), o2, some (.int at'), some (.int 0), o5, o6] st (by simp) (fun k hk i s ρ st' hi h => by
      obtain ⟨⟨b5, b6, rfl⟩, rfl⟩ := h
      have hk := List.mem_range.mp hk
      have e1 : rn (n + 1) f_choices [.int ((size : Int) - k), .int ((at' : Int) - k)] [] = .ok (.int (cho (size - k) (at' - k))) [] := by
        rw [show (size : Int) - k = ((size - k : Nat) : Int) by omega, show (at' : Int) - k = ((at' - k : Nat) : Int) by omega]
        exact s_choices (by omega) (by omega)
      have e2 : rn (n + 1) f_is_odd [.int ((at' : Int) - k)] [] = .ok (.bl (decide ((at' - k) % 2 = 1))) [] := by
        rw [show (at' : Int) - k = ((at' - k : Nat) : Int) by omega]
        exact s_is_odd
      have hkc : k < cs.length := by omega
      have hbk := hb cs[k] (List.getElem_mem hkc)
      have m1 : binI .mul (cho (size - k) (at' - k) : Int) cs[k] = some (.int ((cho (size - k) (at' - k) : Int) * cs[k])) := bi_mul (.inr (by omega))
      simp [l_h_by_0, e1, e2, hkc, m1]
      split <;> intro h3 <;> omega) ⟨⟨o5, o6, rfl⟩, rfl⟩
  refine ⟨b5, b6, ?_⟩
  rw [e]
  rw [sum_fold (fun k => (cho (size - k) (at' - k) : Int) * (cs[k]?).getD 0) (fun k => decide ((at' - k) % 2 = 1))]
  congr 1
  simp [hAt, sgn]
  refine congrArg List.sum (List.map_congr_left fun k _ => ?_)
  by_cases h : (at' - k) % 2 = 0
  · simp [h]
  · simp [h, show (at' - k) % 2 = 1 by omega, Int.neg_mul]
def hList (c : Nat → Int) (size : Nat) : List Int := (List.range (size + 1)).map fun k => hAt c size k
/-- the cell in which h_by leaves its numbers -/
theorem s_h_by {n size : Nat} {cs : List Int} (hs : size ≤ 7) (hc : cs.length = size + 1) (hb : ∀ c ∈ cs, -1000000 ≤ c ∧ c ≤ 1000000) : ∃ st' : Store, rn (n + 2) f_h_by [.lst (cs.map .int), .int size] [] = .ok (.lst ((hList (fun k => (cs[k]?).getD 0) size).map .int)) st' := by
  rw [rn_succ lk_h_by]
  obtain ⟨ρ', st', e, ⟨o3, o4, o5, o6, q1⟩, q2, h1⟩ := for_fold (α := Nat) (enc := fun (k : Nat) => D.int k) (w := { its := (List.range (size + 1)).map fun (k : Nat) => D.int k }) (f := forT (cx (n + 1)) [3] false l_h_by_1) (fun i (s : List Int) ρ st' => (∃ o3 o4 o5 o6, ρ = [some (.lst (cs.map .int)), some (.int size), some (.cel 0), o3, o4, o5, o6]) ∧ st' = [.lst (s.map .int)] ∧ s.length = i) (fun s k => s ++ [hAt (fun k => (cs[k]?).getD 0) size k]) (n := size + 1) (fun _ _ _ _ _ => rfl) (List.range (size + 1)) 0 []
    [some (.lst (cs.map .int)), some (.int size), some (.cel 0), none, none, none, none] [.lst []] (by simp) (fun k hk i s ρ st' hi h => by
      obtain ⟨⟨o3, o4, o5, o6, q1⟩, q2, h1⟩ := h
      subst q1 q2
      have hk := List.mem_range.mp hk
      refine on_of ?_
      have hks : k ≤ size := by omega
      have q := t_h_by (n := n) (size := size) (at' := k) (cs := cs) (o2 := some (.cel 0)) (o5 := o5) (o6 := o6) (w0 := 0) (st := [.lst (s.map .int)]) hs hks hc hb
      obtain ⟨b5, b6, e⟩ := q
      have hg : ([Cell.lst (s.map .int)] : Store)[0]? = some (Cell.lst (s.map .int)) := by simp
      have ha := app_cel (d := D.int (hAt (fun k => (cs[k]?).getD 0) size k)) hg (by simp; unfold line; omega)
      simp [l_h_by_1, show (k : Int) + 1 < 4611686018427387904 by omega, show -4611686018427387904 ≤ (k : Int) + 1 by omega, show ((k : Int) + 1).toNat = k + 1 by omega, e, hg, ha, h1]) ⟨⟨none, none, none, none, rfl⟩, rfl, rfl⟩
  subst q1 q2
  have hfold : ∀ (xs : List Nat) (s : List Int), xs.foldl (fun s k => s ++ [hAt (fun k => (cs[k]?).getD 0) size k]) s = s ++ xs.map fun k => hAt (fun k => (cs[k]?).getD 0) size k := by
    intro xs
    induction xs with
    | nil => simp
    | cons a r ih => intro s; rw [List.foldl_cons, ih]; simp
  rw [hfold] at e
  simp [b_h_by, show (size : Int) + 1 < 4611686018427387904 by omega, show -4611686018427387904 ≤ (size : Int) + 1 by omega, show ((size : Int) + 1).toNat = size + 1 by omega, e, hList]
end L
end MP
end
section
set_option maxRecDepth 100000
set_option maxHeartbeats 4000000
namespace MP
namespace L
open PySem PySem.Builtin.Str
def szOf (d : Nat) (tops : List (List Int)) : Nat := if tops = [] then 0 else d
/-- the counts of faces, the empty one first -/
def cOf (m : Nat) (tops : List (List Int)) (k : Nat) : Int := if k = 0 then 1 else (fN m tops k : Int)
theorem fN_le {m : Nat} {tops : List (List Int)} {k : Nat} (hm : m ≤ 7) : fN m tops k ≤ 128 := by
  unfold fN
  refine Nat.le_trans (List.length_filter_le _ _) ?_
  rw [lotsP_len]
  exact Nat.le_trans (Nat.pow_le_pow_right (by omega) hm) (by decide)
theorem Bd.dm {m d : Nat} {tops : List (List Int)} (h : Bd m d tops) : szOf d tops ≤ 7 := by
  unfold szOf
  split
  · omega
  · rename_i h0
    cases tops with
    | nil => exact absurd rfl h0
    | cons t r =>
      have h1 := (h.lot t List.mem_cons_self).2
      have h2 := h.tlen t List.mem_cons_self
      omega
theorem hList_congr {c c' : Nat → Int} {size : Nat} (h : ∀ k, k ≤ size → c k = c' k) : hList c size = hList c' size := by
  unfold hList
  refine List.map_congr_left fun a ha => ?_
  have ha := List.mem_range.mp ha
  unfold hAt
  refine congrArg List.sum (List.map_congr_left fun k hk => ?_)
  have hk := List.mem_range.mp hk
  rw [h k (by omega)]
theorem s_h_numbers {n m d : Nat} {tops : List (List Int)} {st : Store} (h : Bd m d tops) : rn (n + 8) f_h_numbers [bodyD m tops] st = .ok (.lst ((hList (cOf m tops) (szOf d tops)).map .int)) st := by
  rw [rn_succ lk_h_numbers]
  have e1 : rn (n + 7) f_check_even [bodyD m tops] [] = .ok .non [] := s_check_even (n := n + 1) h
  have e2 : rn (n + 7) f_dimension_of [bodyD m tops] [] = .ok (.int ((szOf d tops : Int) - 1)) [] := by
    rw [s_dimension_of (n := n + 6) h]
    unfold szOf
    split <;> simp
  have hlen := h.len
  have hsz := h.dm
  simp [b_h_numbers, e1, e2, show (szOf d tops : Int) - 1 + 1 = szOf d tops by omega, show (szOf d tops : Int) < 4611686018427387904 by omega]
  rw [lcR_ok (F := fun (k : Nat) => .int (fN m tops (k + 1) : Nat)) (by simp; unfold line; omega)]
  · have eq : ((List.range (szOf d tops)).map fun (k : Nat) => D.int (fN m tops (k + 1) : Nat)) = ((List.range (szOf d tops)).map fun (k : Nat) => (fN m tops (k + 1) : Int)).map D.int := by rw [List.map_map]; rfl
    rw [eq]
    simp only [R.bind_ok]
    rw [bin_LL (by simp; unfold line; omega)]
    obtain ⟨st', e3⟩ := s_h_by (n := n + 5) (size := szOf d tops) (cs := 1 :: (List.range (szOf d tops)).map fun (k : Nat) => (fN m tops (k + 1) : Int)) hsz (by simp) (fun c hc => by
      rcases List.mem_cons.mp hc with rfl | hc
      · omega
      · obtain ⟨k, _, rfl⟩ := List.mem_map.mp hc
        have := fN_le (tops := tops) (k := k + 1) h.m7
        omega)
    rw [hList_congr (c' := cOf m tops) (fun k hk => by
      cases k with
      | zero => simp [cOf]
      | succ k => simp [cOf, show k < szOf d tops by omega])] at e3
    have e3 : rn (n + 7) f_h_by [.lst (D.int 1 :: ((List.range (szOf d tops)).map fun (k : Nat) => (fN m tops (k + 1) : Int)).map D.int), .int (szOf d tops : Nat)] [] = _ := e3
    simp only [List.map_map] at e3
    simp [e3]
  · intro k hk
    have hk := List.mem_range.mp hk
    obtain ⟨L, e, h1, h2⟩ := s_faces_at (n := n + 3) (m := m) (k := k) (tops := tops) (st := []) h.m7 (by omega)
    simp [e, h1]
def simplexT : List (List Int) := [[0, 1, 2, 3, 4, 5, 6]]
theorem simplex_bd : Bd 7 7 simplexT := ⟨by decide, by decide, by decide, by decide, by decide +kernel, List.pairwise_singleton _ _⟩
theorem simplex_h : hList (cOf 7 simplexT) (szOf 7 simplexT) = [1, 0, 0, 0, 0, 0, 0, 0] := by decide +kernel
theorem s_simplex {n : Nat} {st : Store} : rn (n + 8) f_h_numbers [bodyD 7 simplexT] st = .ok (.lst (([1, 0, 0, 0, 0, 0, 0, 0] : List Int).map .int)) st := by
  rw [s_h_numbers simplex_bd, simplex_h]
end L
end MP
end
section
set_option maxRecDepth 100000
set_option maxHeartbeats 4000000
namespace MP
namespace L
open PySem PySem.Builtin.Str
abbrev topsD (tops : List (List Int)) : List D := tops.map fun l => .lst (l.map .int)
abbrev wd : D := .str (Str.ofString "complex")
def oddL (m : Nat) (tops : List (List Int)) : List D :=
  [.non, .tup [], .lst [wd, .int m, .lst (topsD tops)], .tup [wd, .int m], .tup [wd, .int m, .lst (topsD tops), .int 0], .tup [.str (Str.ofString "Complex"), .int m, .lst (topsD tops)], .tup [wd, .int 0, .lst []], .tup [wd, .int 8, .lst []], .tup [wd, .bl true, .lst []],
   .tup [wd, .int m, .tup (topsD tops)], .tup [wd, .int m, .lst [.lst []]], .dic [], .tup [wd, .int m, .lst [.lst [.int m]]], .tup [wd, .int m, .lst [.tup [.int 0]]], .tup [wd, .int m, .lst [.lst [.bl true]]], .tup [wd, .int m, .lst [.non]],
   .tup [wd, .int 3, .lst [.lst [.int 1], .lst [.int 0]]], .tup [wd, .int 3, .lst [.lst [.int 0], .lst [.int 0, .int 1]]], .tup [wd, .int 3, .lst [.lst [.int 1, .int 0]]], .tup [wd, .int 3, .lst [.lst [.int 0], .lst [.int 0]]]]
theorem s_odd_bodies {n m : Nat} {tops : List (List Int)} (ht : tops.length ≤ 4) : rn (n + 1) f__law_odd_bodies [bodyD m tops] [] = .ok (.lst (oddL m tops)) [] := by
  rcases tops with _ | ⟨a, _ | ⟨b, _ | ⟨c, _ | ⟨d, _ | ⟨e, r⟩⟩⟩⟩⟩
  · kernel_rfl
  · kernel_rfl
  · kernel_rfl
  · kernel_rfl
  · kernel_rfl
  · simp at ht
theorem s_odd {n m : Nat} {tops : List (List Int)} (h1 : 1 ≤ m) (h2 : m ≤ 5) : ∀ d ∈ oddL m tops, rn (n + 4) f_is_complex_by [d] [] = .ok (.bl false) [] := by
  intro d hd
  simp only [oddL, List.mem_cons, List.not_mem_nil, or_false] at hd
  obtain rfl | rfl | rfl | rfl | rfl : m = 1 ∨ m = 2 ∨ m = 3 ∨ m = 4 ∨ m = 5 := by omega
  all_goals
    rcases hd with rfl | rfl | rfl | rfl | rfl | rfl | rfl | rfl | rfl | rfl | rfl | rfl | rfl | rfl | rfl | rfl | rfl | rfl | rfl | rfl
    all_goals kernel_rfl
end L
end MP
end
section
set_option maxRecDepth 100000
set_option maxHeartbeats 4000000
namespace MP
namespace L
open PySem PySem.Builtin.Str
/-- small lots -/
structure Sm (tops : List (List Int)) : Prop where
  len : tops.length ≤ 4
  each : ∀ l ∈ tops, l.length ≤ 10 ∧ ∀ i ∈ l, 0 ≤ i ∧ i < 100
theorem Sm.rq {tops : List (List Int)} (h : Sm tops) : ∀ d ∈ topsD tops, Rq 1 500 d := by
  intro d hd
  obtain ⟨l, hl, rfl⟩ := List.mem_map.mp hd
  refine (Rq.ints fun i hi => ?_).mono (Nat.le_refl _) ?_
  · have := (h.each l hl).2 i hi
    omega
  · have := (h.each l hl).1
    omega
theorem rq_w : Rq 0 7 wd := Rq.str okComplex
theorem rq_W : Rq 0 7 (.str (Str.ofString "Complex")) := Rq.str (z := Str.ofString "Complex") (qokS (by decide +kernel))
theorem ex_repr {d : D} (h : ∀ st : Store, reprD st d = some ((reprD [] d).getD Str.empty)) (ho : PyData.strOk ((reprD [] d).getD Str.empty) = true) : ∃ r : Str, okZ r ∧ ∀ st : Store, reprD st d = some r := ⟨_, ho, h⟩
theorem eq_self {st : Store} {d : D} (hp : pureD d = true) (hs : SeqAt.shaped (toP d) = true) : eqD st d d = some true := by
  have hc : (toP d).canLay0 = true := by
    unfold SeqAt.shaped at hs
    exact (Bool.and_eq_true_iff.mp hs).1
  unfold eqD
  rw [snap_pure hp]
  show (if _ then _ else _) = _
  rw [hs, SeqAt.eqv_refl _ hc]
  rfl
theorem eq_told {st : Store} {a b c d e f : Bool} {r : Str} (hr : okZ r) : eqD st (.lst [.lst [.bl a, .bl b, .bl c, .bl d, .bl e, .bl f], .str r]) (.lst [.lst [.bl a, .bl b, .bl c, .bl d, .bl e, .bl f], .str r]) = some true := by
  have hr : PyData.strOk r = true := hr
  refine eq_self (by simp) ?_
  simp [SeqAt.shaped, toP, toPs, PyData.canLay0, PyData.canLayAll0, PyData.depth, PyData.depthAll, hr]
/-- a lambda called -/
theorem e_cac {c : Cxt} {i j : Nat} {ds : List D} {ρ : Sl} {st : Store} (h : ρ[i]? = some (some (.clo j ds))) (hb : bareDs ds = true) : ev c (.cac i .nil) ρ st = bareR (c.cal (c.nf + j) ds []) st := by
  rw [ev, h, evs]
  simp [R.bind, hb, bareDs]
theorem s_mkl {c : Cxt} {js : List (Nat × List Nat)} {ρ : Sl} {st : Store} : ex c (.mkl js) ρ st = (match mkls ρ js with
    | some ds => .rt (.lst ds) st
    | none => .bad) := by
  rw [ex] <;> (cases mkls ρ js <;> rfl)
theorem bare_ints : ∀ l : List Int, bareDs (l.map .int) = true
  | [] => rfl
  | i :: r => by
    rw [List.map_cons, bareDs, bare_ints r]
    rfl
theorem bare_tops : ∀ tops : List (List Int), bareDs (topsD tops) = true
  | [] => rfl
  | l :: r => by
    rw [topsD, List.map_cons, bareDs, bareD, bare_ints l]
    exact bare_tops r
theorem odd_bare {m : Nat} {tops : List (List Int)} : ∀ d ∈ oddL m tops, bareD d = true := by
  intro d hd
  have ht := bare_tops tops
  simp only [oddL, List.mem_cons, List.not_mem_nil, or_false] at hd
  rcases hd with rfl | rfl | rfl | rfl | rfl | rfl | rfl | rfl | rfl | rfl | rfl | rfl | rfl | rfl | rfl | rfl | rfl | rfl | rfl | rfl
  all_goals simp [bareD, bareDs, bareDk, ht]
theorem odd_repr {m : Nat} {tops : List (List Int)} (h1 : 1 ≤ m) (h2 : m ≤ 5) (h : Sm tops) : ∀ d ∈ oddL m tops, ∃ r : Str, okZ r ∧ ∀ st : Store, reprD st d = some r := by
  intro d hd
  have hT : Rq 2 2004 (.lst (topsD tops)) := (Rq.lst h.rq).mono (Nat.le_refl _) (by have := h.len; simp; omega)
  have hU : Rq 2 2004 (.tup (topsD tops)) := (Rq.tup h.rq).mono (Nat.le_refl _) (by have := h.len; simp; omega)
  have hm : Rq 0 40 (.int (m : Int)) := Rq.int (by omega)
  have h0 : Rq 0 40 (.int 0) := Rq.int (by omega)
  have up : ∀ {k w : Nat} {d : D}, Rq k w d → k ≤ 2 → w ≤ 2004 → Rq 2 2004 d := fun h a b => h.mono a b
  have rp : ∀ {k w : Nat} {d : D}, Rq k w d → k ≤ 9 → w ≤ 1000000 → ∃ r : Str, okZ r ∧ ∀ st : Store, reprD st d = some r := fun h a b => h.repr a b
  simp only [oddL, List.mem_cons, List.not_mem_nil, or_false] at hd
  rcases hd with rfl | rfl | rfl | rfl | rfl | rfl | rfl | rfl | rfl | rfl | hd
  · exact rp Rq.non (by omega) (by omega)
  · exact rp (Rq.tup (k := 0) (w := 0) (ds := []) (by simp)) (by omega) (by simp)
  · refine rp (Rq.lst (k := 2) (w := 2004) (ds := [wd, .int m, .lst (topsD tops)]) ?_) (by omega) (by simp)
    intro x hx
    simp only [List.mem_cons, List.not_mem_nil, or_false] at hx
    rcases hx with rfl | rfl | rfl
    · exact up rq_w (by omega) (by omega)
    · exact up hm (by omega) (by omega)
    · exact hT
  · refine rp (Rq.tup (k := 2) (w := 2004) (ds := [wd, .int m]) ?_) (by omega) (by simp)
    intro x hx
    simp only [List.mem_cons, List.not_mem_nil, or_false] at hx
    rcases hx with rfl | rfl
    · exact up rq_w (by omega) (by omega)
    · exact up hm (by omega) (by omega)
  · refine rp (Rq.tup (k := 2) (w := 2004) (ds := [wd, .int m, .lst (topsD tops), .int 0]) ?_) (by omega) (by simp)
    intro x hx
    simp only [List.mem_cons, List.not_mem_nil, or_false] at hx
    rcases hx with rfl | rfl | rfl | rfl
    · exact up rq_w (by omega) (by omega)
    · exact up hm (by omega) (by omega)
    · exact hT
    · exact up h0 (by omega) (by omega)
  · refine rp (Rq.tup (k := 2) (w := 2004) (ds := [.str (Str.ofString "Complex"), .int m, .lst (topsD tops)]) ?_) (by omega) (by simp)
    intro x hx
    simp only [List.mem_cons, List.not_mem_nil, or_false] at hx
    rcases hx with rfl | rfl | rfl
    · exact up rq_W (by omega) (by omega)
    · exact up hm (by omega) (by omega)
    · exact hT
  · exact ex_repr (fun st => by kernel_rfl) (by kernel_rfl)
  · exact ex_repr (fun st => by kernel_rfl) (by kernel_rfl)
  · exact ex_repr (fun st => by kernel_rfl) (by kernel_rfl)
  · refine rp (Rq.tup (k := 2) (w := 2004) (ds := [wd, .int m, .tup (topsD tops)]) ?_) (by omega) (by simp)
    intro x hx
    simp only [List.mem_cons, List.not_mem_nil, or_false] at hx
    rcases hx with rfl | rfl | rfl
    · exact up rq_w (by omega) (by omega)
    · exact up hm (by omega) (by omega)
    · exact hU
  · obtain rfl | rfl | rfl | rfl | rfl : m = 1 ∨ m = 2 ∨ m = 3 ∨ m = 4 ∨ m = 5 := by omega
    all_goals
      rcases hd with rfl | rfl | rfl | rfl | rfl | rfl | rfl | rfl | rfl | rfl
      all_goals exact ex_repr (fun st => by kernel_rfl) (by kernel_rfl)
/-! ### all refuse it -/
section
variable {n : Nat} {d : D}
theorem r_complex (h : ∀ n, rn (n + 4) f_is_complex_by [d] [] = .ok (.bl false) []) (hf : freeD d = true) : rn (n + 5) f_check_complex [d] [] = .exc x_InvalidComplex d [] := by
  rw [rn_succ lk_check_complex]
  simp [b_check_complex, h, hf]
theorem r_even (h : ∀ n, rn (n + 4) f_is_complex_by [d] [] = .ok (.bl false) []) (hf : freeD d = true) : rn (n + 6) f_check_even [d] [] = .exc x_InvalidComplex d [] := by
  rw [rn_succ lk_check_even]
  simp [b_check_even, r_complex h hf, hf]
theorem r_check_few_tops (h : ∀ n, rn (n + 4) f_is_complex_by [d] [] = .ok (.bl false) []) (hf : freeD d = true) : rn (n + 7) f_check_few_tops [d] [] = .exc x_InvalidComplex d [] := by
  rw [rn_succ lk_check_few_tops]
  simp [b_check_few_tops, r_even (n := n) h hf, hf]
theorem r_check_shelled (h : ∀ n, rn (n + 4) f_is_complex_by [d] [] = .ok (.bl false) []) (hf : freeD d = true) : rn (n + 7) f_check_shelled [d, .non] [] = .exc x_InvalidComplex d [] := by
  rw [rn_succ lk_check_shelled]
  simp [b_check_shelled, r_even (n := n) h hf, hf]
theorem r_is_shell (h : ∀ n, rn (n + 4) f_is_complex_by [d] [] = .ok (.bl false) []) (hf : freeD d = true) : rn (n + 8) f_is_shell [d, .non] [] = .exc x_InvalidComplex d [] := by
  rw [rn_succ lk_is_shell]
  simp [b_is_shell, r_even (n := n + 1) h hf, hf]
theorem r_shell_or_none (h : ∀ n, rn (n + 4) f_is_complex_by [d] [] = .ok (.bl false) []) (hf : freeD d = true) : rn (n + 8) f_shell_or_none [d] [] = .exc x_InvalidComplex d [] := by
  rw [rn_succ lk_shell_or_none]
  simp [b_shell_or_none, r_check_few_tops (n := n) h hf, hf]
theorem r_is_shell_or_none (h : ∀ n, rn (n + 4) f_is_complex_by [d] [] = .ok (.bl false) []) (hf : freeD d = true) : rn (n + 8) f_is_shell_or_none [d, .non] [] = .exc x_InvalidComplex d [] := by
  rw [rn_succ lk_is_shell_or_none]
  simp [b_is_shell_or_none, r_check_few_tops (n := n) h hf, hf]
theorem r_new_faces (h : ∀ n, rn (n + 4) f_is_complex_by [d] [] = .ok (.bl false) []) (hf : freeD d = true) : rn (n + 8) f_new_faces [d, .non] [] = .exc x_InvalidComplex d [] := by
  rw [rn_succ lk_new_faces]
  simp [b_new_faces, r_check_shelled (n := n) h hf, hf]
theorem r_end_tops (h : ∀ n, rn (n + 4) f_is_complex_by [d] [] = .ok (.bl false) []) (hf : freeD d = true) : rn (n + 8) f_end_tops [d, .non] [] = .exc x_InvalidComplex d [] := by
  rw [rn_succ lk_end_tops]
  simp [b_end_tops, r_check_shelled (n := n) h hf, hf]
theorem r_link_shell (h : ∀ n, rn (n + 4) f_is_complex_by [d] [] = .ok (.bl false) []) (hf : freeD d = true) : rn (n + 8) f_link_shell [d, .non, .non] [] = .exc x_InvalidComplex d [] := by
  rw [rn_succ lk_link_shell]
  simp [b_link_shell, r_check_shelled (n := n) h hf, hf]
theorem r_h_numbers (h : ∀ n, rn (n + 4) f_is_complex_by [d] [] = .ok (.bl false) []) (hf : freeD d = true) : rn (n + 8) f_h_numbers [d] [] = .exc x_InvalidComplex d [] := by
  rw [rn_succ lk_h_numbers]
  simp [b_h_numbers, r_even (n := n + 1) h hf, hf]
theorem r_is_parting (h : ∀ n, rn (n + 4) f_is_complex_by [d] [] = .ok (.bl false) []) (hf : freeD d = true) : rn (n + 8) f_is_parting [d, .non] [] = .exc x_InvalidComplex d [] := by
  rw [rn_succ lk_is_parting]
  simp [b_is_parting, r_even (n := n + 1) h hf, hf]
theorem r_parting_or_none (h : ∀ n, rn (n + 4) f_is_complex_by [d] [] = .ok (.bl false) []) (hf : freeD d = true) : rn (n + 8) f_parting_or_none [d] [] = .exc x_InvalidComplex d [] := by
  rw [rn_succ lk_parting_or_none]
  simp [b_parting_or_none, r_check_few_tops (n := n) h hf, hf]
theorem r_is_parting_or_none (h : ∀ n, rn (n + 4) f_is_complex_by [d] [] = .ok (.bl false) []) (hf : freeD d = true) : rn (n + 8) f_is_parting_or_none [d, .non] [] = .exc x_InvalidComplex d [] := by
  rw [rn_succ lk_is_parting_or_none]
  simp [b_is_parting_or_none, r_check_few_tops (n := n) h hf, hf]
theorem r_lam {j : Nat} (hj : j < 10) (h : ∀ n, rn (n + 4) f_is_complex_by [d] [] = .ok (.bl false) []) (hf : freeD d = true) : rn (n + 9) (NF + j) [d] [] = .exc x_InvalidComplex d [] := by
  obtain rfl | rfl | rfl | rfl | rfl | rfl | rfl | rfl | rfl | rfl : j = 0 ∨ j = 1 ∨ j = 2 ∨ j = 3 ∨ j = 4 ∨ j = 5 ∨ j = 6 ∨ j = 7 ∨ j = 8 ∨ j = 9 := by omega
  · rw [rn_succ lk_lam_0]
    simp [y_0, r_is_shell h hf, hf]
  · rw [rn_succ lk_lam_1]
    simp [y_1, r_shell_or_none h hf, hf]
  · rw [rn_succ lk_lam_2]
    simp [y_2, r_is_shell_or_none h hf, hf]
  · rw [rn_succ lk_lam_3]
    simp [y_3, r_new_faces h hf, hf]
  · rw [rn_succ lk_lam_4]
    simp [y_4, r_end_tops h hf, hf]
  · rw [rn_succ lk_lam_5]
    simp [y_5, r_link_shell h hf, hf]
  · rw [rn_succ lk_lam_6]
    simp [y_6, r_h_numbers h hf, hf]
  · rw [rn_succ lk_lam_7]
    simp [y_7, r_is_parting h hf, hf]
  · rw [rn_succ lk_lam_8]
    simp [y_8, r_parting_or_none h hf, hf]
  · rw [rn_succ lk_lam_9]
    simp [y_9, r_is_parting_or_none h hf, hf]
theorem s_asked (hb : bareD d = true) : rn (n + 1) f__law_asked [d] [] = .ok (.lst ((List.range 10).map fun j => .clo j [d])) [] := by
  rw [rn_succ lk__law_asked]
  simp [b__law_asked, s_mkl, mkls, gets, bareDs, hb]
  rfl
theorem s_caught {j k : Nat} {r : Str} (hb : bareD d = true) (e : rn (n + 1) (NF + j) [d] [] = .exc k d []) (hk : k < 6) (hr : ∀ st : Store, reprD st d = some r) : rn (n + 2) f__law_caught [.clo j [d]] [] =
    .ok (.lst [.lst [.bl (decide (k = 1)), .bl (decide (k = 4)), .bl (decide (k = 3)), .bl (decide (k = 2)), .bl (decide (k = 5)), .bl true], .str r]) [] := by
  have e1 : ev (cx (n + 1)) (.cac 0 .nil) [some (.clo j [d]), some .non, none, none] [] = .exc k d [] := by
    rw [e_cac rfl (by simp [bareDs, hb])]
    simp [e, bareR, hb]
  rw [rn_succ lk__law_caught]
  obtain rfl | rfl | rfl | rfl | rfl | rfl : k = 0 ∨ k = 1 ∨ k = 2 ∨ k = 3 ∨ k = 4 ∨ k = 5 := by omega
  all_goals simp [b__law_caught, e1, hr]
  all_goals rfl
end
end L
end MP
end
section
set_option maxRecDepth 100000
set_option maxHeartbeats 4000000
namespace MP
namespace L
open PySem PySem.Builtin.Str
def keepB (lots s : List (List Int)) (x : List Int) : Bool := !decide (x = []) && (!decide (x ∈ s) && decide (lots.filter (fun o => !decide (x = o) && wit x o) = []))
def invC (m : Nat) (lots : List (List Int)) (i : Nat) (s : List (List Int)) (ρ : Sl) (st : Store) : Prop := (∃ o3, ρ = [some (.int m), some (.lst (lots.map fun l => .lst (l.map .int))), some (.cel 0), o3, none]) ∧ st = [.lst (s.map fun l => .lst (l.map .int))] ∧ s.length ≤ i
theorem s_law_complex {n m : Nat} {lots : List (List Int)} (hl : lots.length ≤ 4) (ht : ∀ l ∈ lots, l.length ≤ 10) : ∃ (tops : List (List Int)) (st' : Store), rn (n + 2) f__law_complex [.int m, .lst (lots.map fun l => .lst (l.map .int))] [] = .ok (bodyD m tops) st' ∧ tops.length ≤ lots.length ∧ ∀ t ∈ tops, t ∈ lots := by
  rw [rn_succ lk__law_complex]
  obtain ⟨ρ', st', e, ⟨o3, rfl⟩, rfl, h1⟩ := for_fold (α := List Int) (enc := fun l => D.lst (l.map .int)) (w := { its := lots.map fun l => D.lst (l.map .int) }) (f := forT (cx (n + 1)) [3] false l__law_complex_0) (invC m lots) (fun s x => if keepB lots s x then s ++ [x] else s) (n := lots.length) (fun _ _ _ _ _ => rfl) lots 0 []
    [some (.int m), some (.lst (lots.map fun l => .lst (l.map .int))), some (.cel 0), none, none] [.lst []] (by simp) (fun x hx i s ρ st' hi h' => by
      unfold invC at h'
      obtain ⟨⟨o3, e0⟩, e1, h1⟩ := h'
      subst e0 e1
      have hxl := ht x hx
      have hin : inD [Cell.lst (s.map fun l => .lst (l.map .int))] (.lst (x.map .int)) (.cel 0) = some (decide (x ∈ s)) := in_LC rfl
      have ha := app_cel (st := [Cell.lst (s.map fun l => .lst (l.map .int))]) (k := 0) (d := .lst (x.map .int)) (ds := s.map fun l => .lst (l.map .int)) rfl (by simp; unfold line; omega)
      have hxx : x.length ≤ line := by unfold line; omega
      simp [l__law_complex_0, hin, hxx, ha]
      by_cases c1 : x = []
      · simp [c1, keepB, invC]
        omega
      · by_cases c2 : x ∈ s
        · simp [c1, c2, keepB, invC]
          omega
        · simp [c1, c2]
          rw [lcR_if (p := fun o => !decide (x = o) && wit x o) (F := fun l => .lst (l.map .int)) (by unfold line; omega)]
          · simp
            by_cases c4 : ∀ a ∈ lots, ¬ x = a → wit x a = false
            · have ck : keepB lots s x = true := by simpa [keepB, c1, c2] using c4
              rw [if_pos c4, ha, if_pos ck]
              simp [invC]
              omega
            · have ck : keepB lots s x ≠ true := fun z => c4 (by simpa [keepB, c1, c2] using z)
              rw [if_neg c4, if_neg ck]
              exact ⟨⟨_, rfl⟩, rfl, by omega⟩
          · intro o ho
            by_cases c3 : x = o
            · simp [c3]
            · simp [c3]) ⟨⟨none, rfl⟩, rfl, Nat.zero_le _⟩
  have sub : ∀ (xs s : List (List Int)), ∀ t ∈ xs.foldl (fun s x => if keepB lots s x then s ++ [x] else s) s, t ∈ s ∨ t ∈ xs := by
    intro xs
    induction xs with
    | nil => intro s t h; exact .inl h
    | cons a r ih =>
      intro s t h
      rw [List.foldl_cons] at h
      rcases ih _ t h with z | z
      · split at z
        · rcases List.mem_append.mp z with z | z
          · exact .inl z
          · exact .inr (by rw [List.mem_singleton.mp z]; exact List.mem_cons_self)
        · exact .inl z
      · exact .inr (List.mem_cons_of_mem _ z)
  obtain ⟨T, eT⟩ : ∃ T, T = lots.foldl (fun s x => if keepB lots s x then s ++ [x] else s) [] := ⟨_, rfl⟩
  rw [← eT] at e h1
  have hT : ∀ t ∈ T, t ∈ lots := fun t ht => by
    rw [eT] at ht
    rcases sub _ _ t ht with z | z
    · cases z
    · exact z
  have e5 := fun st => sort_LL (st := st) (d := .lst (T.map fun l => .lst (l.map .int))) (ls := T) (snap_pure (by simp)) (by unfold line; omega)
  have e6 : sortD [Cell.lst (T.map fun l => .lst (l.map .int))] (.cel 0) = some (.lst ((srt T).map fun l => .lst (l.map .int))) := sort_LL (snap_cel rfl (by simp)) (by unfold line; omega)
  refine ⟨srt T, [.lst (T.map fun l => .lst (l.map .int))], ?_, by rw [srt_length]; omega, fun t ht => hT t ((srt_perm _).mem_iff.mp ht)⟩
  simp [b__law_complex, e, e6, bodyD]
theorem freeI : ∀ l : List Int, freeDs (l.map .int) = true
  | [] => rfl
  | i :: r => by rw [List.map_cons, freeDs, freeI r]; rfl
theorem freeT : ∀ L : List (List Int), freeDs (L.map fun l => .lst (l.map .int)) = true
  | [] => rfl
  | l :: r => by rw [List.map_cons, freeDs, freeD, freeI l, freeT r]; rfl
theorem s_law_body {n g b : Nat} {st : Store} (hg : Gn g b st) (hb : b ≤ 10000000) : ∃ (m : Nat) (tops : List (List Int)) (st' : Store), rn (n + 5) f__law_body [.cel g, .int 5, .int 4] st = .ok (bodyD m tops) st' ∧ (1 ≤ m ∧ m ≤ 5) ∧ Sm tops := by
  rw [rn_succ lk__law_body]
  obtain ⟨v1, y1, e1, ⟨p1, q1⟩, g1⟩ := s_random (n := n + 2) hg (many := 5) (by omega) (by omega) (by omega)
  obtain ⟨m, rfl⟩ : ∃ m : Nat, v1 = m := ⟨v1.toNat, by omega⟩
  have hm : m < 5 := by omega
  have eL := fun st => s_law_lots (n := n + 3) (k := m + 1) (st := st) (by omega)
  rw [show ((m + 1 : Nat) : Int) = 1 + m by omega] at eL
  have hlen : ((lotsP (m + 1)).filter fun l => decide (0 < l.length) && decide ((l.length : Int) ≤ 4)).length ≤ 32 := by
    refine Nat.le_trans (List.length_filter_le _ _) ?_
    rw [lotsP_len]
    exact Nat.le_trans (Nat.pow_le_pow_right (by omega) (show m + 1 ≤ 5 by omega)) (by decide)
  have hll : (lotsP (m + 1)).length ≤ line := by
    rw [lotsP_len]
    exact Nat.le_trans (Nat.pow_le_pow_right (by omega) (show m + 1 ≤ 5 by omega)) (by decide)
  obtain ⟨fs, st3, e3, hp, g3, f3⟩ := s_drawn_order (n := n + 1) (ds := (lotsP (m + 1)).filter fun l => decide (0 < l.length) && decide ((l.length : Int) ≤ 4)) g1 (by omega) (by omega)
  obtain ⟨v4, y4, e4, ⟨p4, q4⟩, g4⟩ := s_random (n := n + 2) g3 (many := 5) (by omega) (by omega) (by omega)
  obtain ⟨v, rfl⟩ : ∃ v : Nat, v4 = v := ⟨v4.toNat, by omega⟩
  have hmem : ∀ t ∈ fs.take v, t.length ≤ 10 ∧ ∀ i ∈ t, 0 ≤ i ∧ i < 100 := fun t ht => by
    have := hp.mem_iff.mp (List.mem_of_mem_take ht)
    obtain ⟨h1, h2⟩ := List.mem_filter.mp this
    obtain ⟨k1, k2⟩ := lotsP_item (m + 1) t h1
    exact ⟨by omega, fun i hi => by have := k2 i hi; omega⟩
  have hl4 : (fs.take v).length ≤ 4 := by rw [List.length_take]; omega
  obtain ⟨tops, st5, e5, t1, t2⟩ := s_law_complex (n := n + 2) (m := m + 1) (lots := fs.take v) hl4 fun l hl => (hmem l hl).1
  refine ⟨m + 1, tops, st3.set g y4, ?_, by omega, ⟨by omega, fun l hl => hmem l (t2 l hl)⟩⟩
  rw [show ((m + 1 : Nat) : Int) = 1 + m by omega] at e5
  simp only [List.map_take] at e5
  simp [b__law_body, e1, eL, hll, e3, e4, e5]
  intro hfr
  rw [← List.map_take] at hfr
  rw [freeT] at hfr
  cases hfr
end L
end MP
end
section
set_option maxRecDepth 100000
set_option maxHeartbeats 4000000
namespace MP
namespace L
open PySem PySem.Builtin.Str
/-! ### all calls of one odd body -/
theorem free_clo {j : Nat} {d : D} (hb : bareD d = true) : freeD (.clo j [d]) = true := by
  rw [freeD, bareDs, hb]
  rfl
theorem free_clos {d : D} (hb : bareD d = true) : freeD (.lst ((List.range 10).map fun j => .clo j [d])) = true := by
  rw [freeD]
  have : ∀ js : List Nat, freeDs (js.map fun j => .clo j [d]) = true := fun js => by
    induction js with
    | nil => rfl
    | cons j r ih => rw [List.map_cons, freeDs, free_clo hb, ih]; rfl
  exact this _
theorem t_calls {n : Nat} {d : D} {r : Str} {o0 o1 o2 o3 o6 : Option D} {st : Store} (hc : ∀ n, rn (n + 4) f_is_complex_by [d] [] = .ok (.bl false) []) (hb : bareD d = true) (hf : freeD d = true) (ho : okZ r) (hr : ∀ st : Store, reprD st d = some r) :
    ∃ o6' : Option D, ex (cx (n + 10)) (.for_ [6] false (.lis (.pur f__law_asked (.cons (.nm 4) .nil))) l_law_2) [o0, o1, o2, o3, some d, some (.str r), o6] st = .nx [o0, o1, o2, o3, some d, some (.str r), o6'] st := by
  obtain ⟨ρ', st', e, ⟨⟨o6', rfl⟩, rfl⟩⟩ := for_fold (α := Nat) (S := Unit) (enc := fun j => D.clo j [d]) (w := { its := (List.range 10).map fun j => D.clo j [d] }) (f := forT (cx (n + 10)) [6] false l_law_2) (fun _ _ ρ st' => (∃ o6', ρ = [o0, o1, o2, o3, some d, some (.str r), o6']) ∧ st' = st) (fun s _ => s) (n := 10) (fun _ _ _ _ _ => rfl) (List.range 10) 0 ()
    [o0, o1, o2, o3, some d, some (.str r), o6] st (by simp) (fun j hj i s ρ st' hi h' => by
      obtain ⟨⟨o6, rfl⟩, rfl⟩ := h'
      have e1 := s_caught (n := n + 8) (j := j) (k := 1) (r := r) hb (r_lam (List.mem_range.mp hj) hc hf) (by omega) hr
      have e2 := fun st => eq_told (st := st) (a := true) (b := false) (c := false) (d := false) (e := false) (f := true) ho
      have e3 := fun st => eq_SS (st := st) ho ho
      simp [l_law_2, e1, hr, free_clo hb, e2, e3]) ⟨⟨o6, rfl⟩, rfl⟩
  refine ⟨o6', ?_⟩
  have e2 := s_asked (n := n + 9) hb
  have hp := purR_ok (st' := []) (st := st') (free_clos hb)
  simp [e2, hf]
  rw [hp]
  simp [e]
theorem odd_free {m : Nat} {tops : List (List Int)} : ∀ d ∈ oddL m tops, freeD d = true := by
  intro d hd
  have ht : freeDs (topsD tops) = true := freeT tops
  simp only [oddL, List.mem_cons, List.not_mem_nil, or_false] at hd
  rcases hd with rfl | rfl | rfl | rfl | rfl | rfl | rfl | rfl | rfl | rfl | rfl | rfl | rfl | rfl | rfl | rfl | rfl | rfl | rfl | rfl
  all_goals simp [freeD, freeDs, freeDk, ht]
theorem t_odds {n m : Nat} {tops : List (List Int)} {o0 o1 o2 o4 o5 o6 : Option D} {st : Store} (h1 : 1 ≤ m) (h2 : m ≤ 5) (h : Sm tops) :
    ∃ o4' o5' o6' : Option D, ex (cx (n + 10)) (.for_ [4] false (.lis (.pur f__law_odd_bodies (.cons (.nm 3) .nil))) l_law_3) [o0, o1, o2, some (bodyD m tops), o4, o5, o6] st = .nx [o0, o1, o2, some (bodyD m tops), o4', o5', o6'] st := by
  have hfr : ∀ d ∈ oddL m tops, freeD d = true := odd_free
  obtain ⟨ρ', st', e, ⟨⟨o4', o5', o6', rfl⟩, rfl⟩⟩ := for_fold (α := D) (S := Unit) (enc := fun d => d) (w := { its := oddL m tops }) (f := forT (cx (n + 10)) [4] false l_law_3) (fun _ _ ρ st' => (∃ o4' o5' o6', ρ = [o0, o1, o2, some (bodyD m tops), o4', o5', o6']) ∧ st' = st) (fun s _ => s) (n := 20) (fun _ _ _ _ _ => rfl) (oddL m tops) 0 ()
    [o0, o1, o2, some (bodyD m tops), o4, o5, o6] st (by simp [oddL]) (fun d hd i s ρ st' hi h' => by
      obtain ⟨⟨o4, o5, o6, rfl⟩, rfl⟩ := h'
      obtain ⟨r, ho, hr⟩ := odd_repr h1 h2 h d hd
      obtain ⟨o6', e1⟩ := t_calls (n := n) (o0 := o0) (o1 := o1) (o2 := o2) (o3 := some (bodyD m tops)) (o6 := o6) (st := st') (fun n => s_odd h1 h2 d hd) (odd_bare d hd) (hfr d hd) ho hr
      simp [l_law_3, hr, -t_for, e1]) ⟨⟨o4, o5, o6, rfl⟩, rfl⟩
  refine ⟨o4', o5', o6', ?_⟩
  have e2 := s_odd_bodies (n := n + 9) (m := m) (tops := tops) h.len
  have hp := purR_ok (st' := []) (st := st') (d := .lst (oddL m tops)) (by
    rw [freeD, freeDs_all]
    exact List.all_eq_true.mpr hfr)
  simp [e2]
  rw [hp]
  rw [List.map_id'] at e
  simp [e]
theorem t_unlike {n : Nat} {o0 o1 o2 o3 o4 o5 o6 : Option D} {st : Store} : ∃ o4' o6' : Option D, ex (cx (n + 12)) (.for_ [4] false (.lis (.lst (.cons (.tup (.cons (.kn (.str "complex")) (.cons (.kn (.int 3)) (.cons (.lst (.cons (.lst (.cons (.kn (.int 0)) .nil)) (.cons (.lst (.cons (.kn (.int 1)) (.cons (.kn (.int 2)) .nil))) .nil))) .nil)))) (.cons (.tup (.cons (.kn (.str "complex")) (.cons (.kn (.int 5)) (.cons (.lst (.cons (.lst (.cons (.kn (.int 0)) (.cons (.kn (.int 1)) (.cons (.kn (.int 2)) .nil)))) (.cons (.lst (.cons (.kn (.int 2)) (.cons (.kn (.int 3)) .nil))) (.cons (.lst (.cons (.kn (.int 3)) (.cons (.kn (.int 4)) .nil))) .nil)))) .nil)))) (.cons (.tup (.cons (.kn (.str "complex")) (.cons (.kn (.int 4)) (.cons (.lst (.cons (.lst (.cons (.kn (.int 0)) (.cons (.kn (.int 1)) .nil))) (.cons (.lst (.cons (.kn (.int 1)) (.cons (.kn (.int 2)) (.cons (.kn (.int 3)) .nil)))) .nil))) .nil)))) .nil))))) l_law_1) [o0, o1, o2, o3, o4, o5, o6] st =
    .nx [o0, o1, o2, o3, o4', o5, o6'] st :=
  ⟨some (.tup [wd, .int 4, .lst [.lst [.int 0, .int 1], .lst [.int 1, .int 2, .int 3]]]), some (.clo 9 [.tup [wd, .int 4, .lst [.lst [.int 0, .int 1], .lst [.int 1, .int 2, .int 3]]]]), by kernel_rfl⟩
theorem t_turn {n : Nat} {ns : List Int} {i : Nat} {o1 o2 o3 o4 o5 o6 : Option D} {st : Store} (hi : i < 2) : ∃ (o2' o3' o4' o5' o6' : Option D) (st' : Store), exs (cx (n + 12)) l_law_4 [some (.scr ns), some (.int i), o2, o3, o4, o5, o6] st = .nx [some (.scr ns), some (.int i), o2', o3', o4', o5', o6'] st' := by
  obtain ⟨st1, e1, g1, _, _⟩ := s_generator (n := n + 10) (ns := ns) (i := i) (st := st) (by omega)
  obtain ⟨m, tops, st2, e2, hm, ht⟩ := s_law_body (n := n + 7) g1 (by omega)
  obtain ⟨p4, p5, p6, e3⟩ := t_odds (n := n + 2) (o0 := some (.scr ns)) (o1 := some (.int i)) (o2 := some (.cel st.length)) (o4 := o4) (o5 := o5) (o6 := o6) (st := st2) hm.1 hm.2 ht
  obtain ⟨q4, q6, e4⟩ := t_unlike (n := n) (o0 := some (.scr ns)) (o1 := some (.int i)) (o2 := some (.cel st.length)) (o3 := some (bodyD m tops)) (o4 := p4) (o5 := p5) (o6 := p6) (st := st2)
  refine ⟨some (.cel st.length), some (bodyD m tops), q4, p5, q6, st2, ?_⟩
  simp [l_law_4, -t_for, e1, e2, e3, e4]
theorem point_bd : Bd 1 1 [] := ⟨by decide, by decide, by decide, by decide, by simp, List.Pairwise.nil⟩
theorem s_point {n : Nat} : rn (n + 8) f_is_shell [bodyD 1 [], .lst []] [] = .ok (.bl true) [] := by
  rw [rn_succ lk_is_shell]
  have e1 := s_check_even (n := n + 1) (st := []) point_bd
  have e2 : rn (n + 7) f_tops_in [bodyD 1 []] [] = .ok (.lst []) [] := by kernel_rfl
  have e4 : rn (n + 6) f_is_order_of [.int 0, .lst []] [] = .ok (.bl true) [] := by
    rw [rn_succ lk_is_order_of]
    have e5 : sortD [] (.lst []) = some (.lst []) := by
      have := sort_LL (st := []) (d := .lst []) (ls := []) (snap_pure (by simp)) (by unfold line; decide)
      simpa [srt] using this
    have el : ∀ f : D → Store → R (Option D), lcR f [] [] = .ok (.lst []) [] := fun _ => rfl
    have e6 : bltD [] .lrng [.int 0] = some (.lst []) := by kernel_rfl
    simp [b_is_order_of, el, e5, e6]
  have e3 : rn (n + 7) f_is_shell_by [.lst [], .lst []] [] = .ok (.bl true) [] := by
    rw [rn_succ lk_is_shell_by]
    simp [b_is_shell_by, e4]
    rfl
  simp [b_is_shell, e1, e2, e3]
theorem last_true {ρ : Sl} {st : Store} : ev (cx 19) (.and (.pur f_is_shell (.cons (.tup (.cons (.kn (.str "complex")) (.cons (.kn (.int 1)) (.cons (.lst .nil) .nil)))) (.cons (.lst .nil) .nil))) (.cmp .eq (.pur f_h_numbers (.cons (.tup (.cons (.kn (.str "complex")) (.cons (.kn (.int 7)) (.cons (.lst (.cons (.lst (.cons (.kn (.int 0)) (.cons (.kn (.int 1)) (.cons (.kn (.int 2)) (.cons (.kn (.int 3)) (.cons (.kn (.int 4)) (.cons (.kn (.int 5)) (.cons (.kn (.int 6)) .nil)))))))) .nil)) .nil)))) .nil)) (.lst (.cons (.kn (.int 1)) (.cons (.kn (.int 0)) (.cons (.kn (.int 0)) (.cons (.kn (.int 0)) (.cons (.kn (.int 0)) (.cons (.kn (.int 0)) (.cons (.kn (.int 0)) (.cons (.kn (.int 0)) .nil))))))))))) ρ st = .ok (.bl true) st := by
  have e1 := s_point (n := 11)
  have e2 := s_simplex (n := 11) (st := [])
  have e3 := fun st => eq_LL (st := st) (a := [1, 0, 0, 0, 0, 0, 0, 0]) (b := [1, 0, 0, 0, 0, 0, 0, 0])
  simp [bodyD, simplexT] at e1 e2 e3
  simp [e1, e2, e3]
theorem law_all (ns : List Int) : ∃ st, rn 20 f_law [.scr ns] [] = .ok (.bl true) st := by
  rw [rn_succ lk_law]
  obtain ⟨ρ', st', e, ⟨o1, o2, o3, o4, o5, o6, rfl⟩⟩ := for_fold (α := Nat) (S := Unit) (enc := fun j => D.int j) (w := { its := (List.range 2).map fun (j : Nat) => D.int j }) (f := forT (cx 19) [1] false l_law_4) (fun _ _ ρ st' => ∃ o1 o2 o3 o4 o5 o6, ρ = [some (.scr ns), o1, o2, o3, o4, o5, o6]) (fun s _ => s) (n := 2) (fun _ _ _ _ _ => rfl) (List.range 2) 0 ()
    [some (.scr ns), none, none, none, none, none, none] [] (by simp) (fun j hj i s ρ st' hi h' => by
      obtain ⟨o1, o2, o3, o4, o5, o6, rfl⟩ := h'
      obtain ⟨p2, p3, p4, p5, p6, st2, e⟩ := t_turn (n := 7) (ns := ns) (o1 := o1) (i := j) (o2 := o2) (o3 := o3) (o4 := o4) (o5 := o5) (o6 := o6) (st := st') (List.mem_range.mp hj)
      simp [e]) ⟨_, _, _, _, _, _, rfl⟩
  have e1 : ∀ st : Store, ev (cx 19) (.and (.pur f_is_shell (.cons (.tup (.cons (.kn (.str "complex")) (.cons (.kn (.int 1)) (.cons (.lst .nil) .nil)))) (.cons (.lst .nil) .nil))) (.cmp .eq (.pur f_h_numbers (.cons (.tup (.cons (.kn (.str "complex")) (.cons (.kn (.int 7)) (.cons (.lst (.cons (.lst (.cons (.kn (.int 0)) (.cons (.kn (.int 1)) (.cons (.kn (.int 2)) (.cons (.kn (.int 3)) (.cons (.kn (.int 4)) (.cons (.kn (.int 5)) (.cons (.kn (.int 6)) .nil)))))))) .nil)) .nil)))) .nil)) (.lst (.cons (.kn (.int 1)) (.cons (.kn (.int 0)) (.cons (.kn (.int 0)) (.cons (.kn (.int 0)) (.cons (.kn (.int 0)) (.cons (.kn (.int 0)) (.cons (.kn (.int 0)) (.cons (.kn (.int 0)) .nil))))))))))) [some (.scr ns), o1, o2, o3, o4, o5, o6] st = .ok (.bl true) st := fun st => last_true
  refine ⟨st', ?_⟩
  simp [b_law, e, e1, -x_and]
theorem law_holds : ∀ ns : List Int, ns.length ≤ 63 → ∃ st, MP.run (fun i => fl[i]?) (conOf nums) 400 NF 20 f_law [.scr ns] [] = .ok (.bl true) st := fun ns _ => law_all ns
end L
end MP
end
set_option maxHeartbeats 4000000
open PySem PySem.W PySem.Calls PyProof.Rows
theorem PySem.Challenge.cw_holestold_k84_shells_refused_holds : PySem.Challenge.rw_holestold_k84_shells_refused.Holds :=
  holds_of MP.L.law_holds
