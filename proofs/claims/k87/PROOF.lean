import PyProof.Rows.All
import Wide.All
import OpenK.AllK
import Wide.FinOn
import HandS.ForMost
import HandS.Deep
import KE.SortData
import HandS.ForExc
import HandS.Style
import HandS.IsInst
import HandS.Conv
import HandS.WideBits
import HandS.Wide
import KE.LtSeq
import HandS.Zip
import KE.KExcIs
import PyProof.ReprRoads
import HandS.RaiseMore
import HandS.Sort
import HandS.ExcValue
import KE.KExcSuper
import HandS.ExcInit
import HandS.ExcSuper
import HandS.Defaults
import HandS.Ends
import HandS.HeadEnd
import HandS.HeadHook1
import HandS.HeadHook2
import HandS.Codes
import HandS.Head0
import HandS.Head1
import HandS.Head2
import KE.KStateDown
import KE.Datum
import KE.IntTextLaws
import PyProof.StrLawsIn
import PyProof.StrLawsOccR
import PyProof.FitsReplace
import PyProof.StrLawsRepr
import PyProof.ReprReads
import PySem.Challenge.RW_holestold_k87_wrong_lines_of_complexes
set_option Elab.async false
set_option linter.all false
section
set_option maxRecDepth 100000
set_option maxHeartbeats 4000000
/-! MPCore: a small evaluator: values are trees, what changes stands in a store of cells. -/
namespace MP
open PySem

/-- a value -/
inductive D where
  | non | bl (b : Bool) | int (i : Int) | str (s : Str)
  | lst (ds : List D) | tup (ds : List D)
  | dic (kvs : List (L2.Key × D))
  | scr (ns : List Int)
  | cel (k : Nat)
  | exv (c : Nat) (d : D)
  | fn (f : Nat)

/-- an object that changes -/
inductive Cell where
  | lst (ds : List D)
  | dic (kvs : List (L2.Key × D))
  | gone
abbrev Store := List Cell
abbrev Sl := List (Option D)

/-- what comes of a step: a value; an exception of class c with the value d; or nothing is said -/
inductive R (α : Type) where
  | ok (a : α) (st : Store)
  | exc (c : Nat) (d : D) (st : Store)
  | bad
def R.bind {α β : Type} (r : R α) (f : α → Store → R β) : R β := match r with
  | .ok a st => f a st
  | .exc c d st => .exc c d st
  | .bad => .bad
@[simp] theorem R.bind_ok {α β : Type} {a : α} {st : Store} {f : α → Store → R β} : (R.ok a st).bind f = f a st := (rfl)
@[simp] theorem R.bind_exc {α β : Type} {c : Nat} {d : D} {st : Store} {f : α → Store → R β} : (R.exc c d st : R α).bind f = .exc c d st := (rfl)
@[simp] theorem R.bind_bad {α β : Type} {f : α → Store → R β} : (R.bad : R α).bind f = .bad := (rfl)
def ofO {α : Type} (o : Option α) (st : Store) : R α := match o with
  | some a => .ok a st
  | none => .bad
@[simp] theorem ofO_some {α : Type} {a : α} {st : Store} : ofO (some a) st = .ok a st := (rfl)
@[simp] theorem ofO_none {α : Type} {st : Store} : ofO (none : Option α) st = .bad := (rfl)

/-! ### data -/
mutual
def pureD : D → Bool
  | .non => true
  | .bl _ => true
  | .int _ => true
  | .str _ => true
  | .lst ds => pureDs ds
  | .tup ds => pureDs ds
  | _ => false
def pureDs : List D → Bool
  | [] => true
  | d :: ds => pureD d && pureDs ds
end
mutual
def toP : D → PyData
  | .non => .none
  | .bl b => .bool b
  | .int i => .int i
  | .str s => .str s
  | .lst ds => .list (toPs ds)
  | .tup ds => .tuple (toPs ds)
  | _ => .none
def toPs : List D → List PyData
  | [] => []
  | d :: ds => toP d :: toPs ds
end
theorem toPs_map : ∀ ds : List D, toPs ds = ds.map toP
  | [] => by simp [toPs]
  | d :: ds => by simp [toPs, toPs_map ds]
theorem pureDs_all : ∀ ds : List D, pureDs ds = ds.all pureD
  | [] => by simp [pureDs]
  | d :: ds => by simp [pureDs, pureDs_all ds]

mutual
/-- no cell within -/
def freeD : D → Bool
  | .non => true
  | .bl _ => true
  | .int _ => true
  | .str _ => true
  | .lst ds => freeDs ds
  | .tup ds => freeDs ds
  | .dic ds => freeDk ds
  | .scr _ => true
  | .fn _ => true
  | _ => false
def freeDs : List D → Bool
  | [] => true
  | d :: ds => freeD d && freeDs ds
def freeDk : List (L2.Key × D) → Bool
  | [] => true
  | (_, d) :: ds => freeD d && freeDk ds
end
/-- the items of a list -/
def items (st : Store) : D → Option (List D)
  | .lst ds => some ds
  | .cel k => match st[k]? with
    | some (.lst ds) => some ds
    | _ => none
  | _ => none
/-- what is read of a value as plain data -/
def snap (st : Store) : D → Option D
  | .cel k => match st[k]? with
    | some (.lst ds) => if pureDs ds then some (.lst ds) else none
    | _ => none
  | d => if pureD d then some d else none

/-! ### the same tree -/
mutual
def same : D → D → Bool
  | .non, .non => true
  | .bl a, .bl b => a == b
  | .int a, .int b => decide (a = b)
  | .str a, .str b => decide (a = b)
  | .lst a, .lst b => sameL a b
  | .tup a, .tup b => sameL a b
  | .dic a, .dic b => sameK a b
  | .scr a, .scr b => decide (a = b)
  | .cel a, .cel b => decide (a = b)
  | .exv c a, .exv d b => decide (c = d) && same a b
  | .fn a, .fn b => decide (a = b)
  | _, _ => false
def sameL : List D → List D → Bool
  | [], [] => true
  | a :: r, b :: q => same a b && sameL r q
  | _, _ => false
def sameK : List (L2.Key × D) → List (L2.Key × D) → Bool
  | [], [] => true
  | (j, a) :: r, (k, b) :: q => decide (j = k) && (same a b && sameK r q)
  | _, _ => false
end
mutual
theorem same_eq : ∀ {a b : D}, same a b = true → a = b
  | a, b, h => by
    cases a <;> cases b <;> simp [same] at h <;> first
      | rfl
      | (subst h; rfl)
      | (rw [sameL_eq h])
      | (rw [sameK_eq h])
      | (obtain ⟨h1, h2⟩ := h; subst h1; rw [same_eq h2])
theorem sameL_eq : ∀ {a b : List D}, sameL a b = true → a = b
  | [], [], _ => rfl
  | [], _ :: _, h => by simp [sameL] at h
  | _ :: _, [], h => by simp [sameL] at h
  | a :: r, b :: q, h => by
    simp [sameL] at h
    rw [same_eq h.1, sameL_eq h.2]
theorem sameK_eq : ∀ {a b : List (L2.Key × D)}, sameK a b = true → a = b
  | [], [], _ => rfl
  | [], _ :: _, h => by simp [sameK] at h
  | _ :: _, [], h => by simp [sameK] at h
  | (j, a) :: r, (k, b) :: q, h => by
    simp [sameK] at h
    rw [h.1, same_eq h.2.1, sameK_eq h.2.2]
end
mutual
theorem same_refl : ∀ a : D, same a a = true
  | .non | .bl _ | .int _ | .str _ | .scr _ | .cel _ | .fn _ => by simp [same]
  | .lst a | .tup a => by simp [same, sameL_refl a]
  | .dic a => by simp [same, sameK_refl a]
  | .exv c a => by simp [same, same_refl a]
theorem sameL_refl : ∀ a : List D, sameL a a = true
  | [] => by simp [sameL]
  | a :: r => by simp [sameL, same_refl a, sameL_refl r]
theorem sameK_refl : ∀ a : List (L2.Key × D), sameK a a = true
  | [] => by simp [sameK]
  | (j, a) :: r => by simp [sameK, same_refl a, sameK_refl r]
end
end MP
end
section
set_option maxRecDepth 100000
set_option maxHeartbeats 4000000
/-! MPEv: the compact trees and what they come to. -/
namespace MP
open PySem

inductive Bo where | add | sub | mul | fdv | mod | pow
inductive Co where | lt | le | gt | ge | eq | ne | isin | nin | is_ | isn
inductive Ty where | int | bool | str | list | tuple | dict | exc (c : Nat)
inductive Bf where
  | len | any | all | sum | sorted | int | str | list | tuple | max2 | min2 | max | abs | isi (t : Ty) | isis (ts : List Ty) | repr | lrng | ord | sum2
inductive Mt where | append | pop | popAt | index | count | join | split | bits

mutual
inductive Ex where
  | nm (i : Nat) | kn (d : D) | con (g : Nat)
  | bin (op : Bo) (a b : Ex) | neg (a : Ex)
  | cmp (op : Co) (a b : Ex) | chn (o p : Co) (a b c : Ex)
  | and (a b : Ex) | or (a b : Ex) | not (a : Ex) | ife (c a b : Ex)
  | lst (es : Exs) | tup (es : Exs) | dic0
  | sub (a b : Ex) | slc (a : Ex) (lo hi : Ox) | rev (a : Ex) | rvb (a : Ex) (n : Nat)
  | lc (x : Ex) (tg : List Nat) (tp : Bool) (s : Sr) (i : Ox) (own : List Nat)
  | cal (f : Nat) (es : Exs)
  | fn (f : Nat)
  | cav (i : Nat) (es : Exs)
  | cak (f : Nat) (es ks : Exs) (ix : List Nat)
  | val (e : Ex)
  | pur (f : Nat) (es : Exs)
  | blt (b : Bf) (es : Exs)
  | met (m : Mt) (a : Ex) (es : Exs)
  | mk (e : Ex)
  | frz (e : Ex)
inductive Exs where
  | nil
  | cons (e : Ex) (es : Exs)
inductive Ox where
  | non
  | som (e : Ex)
inductive Sr where
  | lis (e : Ex) | tpl (e : Ex) | txt (e : Ex) | rg1 (e : Ex) | rg2 (a b : Ex) | enu (e : Ex) | zip (strict : Bool) (a b : Ex)
end

/-- what an except clause does with what it caught: keep it in a slot; put its value, or its value's repr, into a slot; append it -/
inductive Hn where
  | keep (j : Nat) | put (j : Nat) (r : Bool) | add (j : Nat) (r : Bool)
mutual
inductive Sm where
  | set (i : Nat) (e : Ex)
  | par (is : List Nat) (es : Exs)
  | unp (is : List Nat) (e : Ex)
  | sti (a i e : Ex)
  | aug (i : Nat) (op : Bo) (e : Ex)
  | agi (a i : Ex) (op : Bo) (e : Ex)
  | exp (e : Ex)
  | ret (e : Ex)
  | ife (c : Ex) (a b : Sms)
  | for_ (tg : List Nat) (tp : Bool) (s : Sr) (b : Sms)
  | whl (c : Ex) (b : Sms)
  | brk | cnt | pas
  | rai (c : Nat) (e : Ex)
  | tri (b : Sms) (cs no : List Nat) (i : Nat) (h : Hn)
inductive Sms where
  | nil
  | cons (s : Sm) (ss : Sms)
end

def line : Nat := 16777216
/-! ### operations on values -/
def okMul (i j : Int) : Bool := (decide (-(2 ^ 64) < i) && decide (i < 2 ^ 64)) || (decide (-(2 ^ 64) < j) && decide (j < 2 ^ 64))
def binI (op : Bo) (i j : Int) : Option D := match op with
  | .add => some (.int (i + j))
  | .sub => some (.int (i - j))
  | .mul => if okMul i j then some (.int (i * j)) else none
  | .fdv => if decide (0 < j) && decide (j < 1073741824) then some (.int (i / j)) else none
  | .mod => if 0 < j then some (.int (i % j)) else none
  | .pow => if decide (0 ≤ j) && decide (j ≤ 1000000) && decide (i.natAbs < 2 ^ 64) then some (.int (i ^ j.toNat)) else none
def binD (st : Store) (op : Bo) : D → D → Option D
  | .int i, .int j => binI op i j
  | .str x, .str y => match op with
    | .add => if x.length + y.length ≤ line then some (.str (x ++ y)) else none
    | _ => none
  | .str x, .int n => match op with
    | .mul => if decide (2 ≤ n) && decide (n ≤ 1000000) && decide (0 < x.length) && decide (x.length * n.toNat ≤ line) then some (.str (Txt.mul x n)) else none
    | _ => none
  | .tup xs, .tup ys => match op with
    | .add => if decide (xs.length + ys.length ≤ line) && !xs.isEmpty && !ys.isEmpty then some (.tup (xs ++ ys)) else none
    | _ => none
  | a, .int k => match op, items st a with
    | .mul, some xs => if decide (-(2 ^ 63) ≤ k) && decide (k < 2 ^ 63) && decide (xs.length * k.toNat ≤ line) then some (.lst (List.replicate k.toNat xs).flatten) else none
    | _, _ => none
  | a, b => match op, items st a, items st b with
    | .add, some xs, some ys => if xs.length + ys.length ≤ line then some (.lst (xs ++ ys)) else none
    | _, _, _ => none
def flatD : D → Bool
  | .non => true
  | .bl _ => true
  | .int _ => true
  | .str _ => true
  | _ => false
/-- == on plain data -/
def eqD (st : Store) (a b : D) : Option Bool := match snap st a, snap st b with
  | some x, some y => if SeqAt.shaped (toP x) && SeqAt.shaped (toP y) then some (PyData.eqv (toP x) (toP y)) else none
  | _, _ => none
def intsD : List D → Option (List Int)
  | [] => some []
  | .int i :: r => (intsD r).map (i :: ·)
  | _ => none
def blsD : List D → Option (List Bool)
  | [] => some []
  | .bl i :: r => (blsD r).map (i :: ·)
  | _ => none
def strsD : List D → Option (List Str)
  | [] => some []
  | .str i :: r => (strsD r).map (i :: ·)
  | _ => none
def ltD (st : Store) (a b : D) : Option Bool := match a, b with
  | .int i, .int j => some (decide (i < j))
  | _, _ => match (items st a).bind intsD, (items st b).bind intsD with
    | some xs, some ys => some (HT.lexLt xs ys)
    | _, _ => none
def inD (st : Store) (a b : D) : Option Bool := match b with
  | .str y => match a with
    | .str x => some (!(Builtin.Str.occurrences y x 0 y.length 1).isEmpty)
    | _ => none
  | .tup ys => if flatD a && ys.all flatD then some ((toPs ys).any fun z => PyData.eqv z (toP a)) else none
  | _ => match snap st a, snap st b with
    | some x, some (.lst ys) => if SeqAt.shaped (toP x) && SeqAt.shaped (.list (toPs ys)) then some ((toPs ys).any fun z => PyData.eqv z (toP x)) else none
    | _, _ => none
def nonB : D → Bool
  | .non => true
  | _ => false
def blB (b : Bool) : D → Bool
  | .bl a => decide (a = b)
  | _ => false
def isD (a b : D) : Option Bool := match b with
  | .non => some (nonB a)
  | .bl b => some (blB b a)
  | _ => none
def cmpD (st : Store) (op : Co) (a b : D) : Option Bool := match op with
  | .eq => eqD st a b
  | .ne => (eqD st a b).map (!·)
  | .isin => inD st a b
  | .nin => (inD st a b).map (!·)
  | .is_ => isD a b
  | .isn => (isD a b).map (!·)
  | .lt => ltD st a b
  | .le => match a, b with
    | .int i, .int j => some (decide (i ≤ j))
    | _, _ => none
  | .gt => match a, b with
    | .int i, .int j => some (decide (j < i))
    | _, _ => none
  | .ge => match a, b with
    | .int i, .int j => some (decide (j ≤ i))
    | _, _ => none
def subD (st : Store) (a b : D) : Option D := match a, b with
  | .tup xs, .int i => L2.atI xs i
  | .str z, .int i => if z.length ≤ line then (L2.atI z.cps.toList i).map fun c => .str ⟨#[c]⟩ else none
  | .scr ns, .int i => (L2.atI ns i).map .int
  | a, .int i => (items st a).bind fun xs => L2.atI xs i
  | _, _ => none
def cutL {α : Type} (xs : List α) (lo hi : Option Int) : List α := (xs.drop (HT.sIx xs.length 0 lo)).take (HT.sIx xs.length xs.length hi - HT.sIx xs.length 0 lo)

def slcD (st : Store) (x : D) (l h : Option Int) : Option D := match x with
  | .scr ns => some (.lst ((cutL ns l h).map .int))
  | .tup xs => if HT.sIx xs.length 0 l = 0 ∧ HT.sIx xs.length xs.length h = xs.length then none else some (.tup (cutL xs l h))
  | .str z => if z.length ≤ line then some (.str (L2.cutS z l h)) else none
  | _ => (items st x).map fun xs => .lst (cutL xs l h)
/-! ### built-in functions, methods -/
def lenD (st : Store) : D → Option Nat
  | .tup xs => some xs.length
  | .str z => if z.length ≤ line then some z.length else none
  | .scr ns => some ns.length
  | .cel k => match st[k]? with
    | some (.lst ds) => some ds.length
    | _ => none
  | .lst ds => some ds.length
  | _ => none
def tyIs (st : Store) (t : Ty) : D → Option Bool
  | .non => some false
  | .bl _ => some (match t with | .int => true | .bool => true | _ => false)
  | .int _ => some (match t with | .int => true | _ => false)
  | .str _ => some (match t with | .str => true | _ => false)
  | .lst _ => some (match t with | .list => true | _ => false)
  | .tup _ => some (match t with | .tuple => true | _ => false)
  | .dic _ => some (match t with | .dict => true | _ => false)
  | .cel k => match st[k]? with
    | some (.lst _) => some (match t with | .list => true | _ => false)
    | some (.dic _) => some (match t with | .dict => true | _ => false)
    | _ => none
  | _ => none
/-- an exception of the class k -/
def isX (k : Nat) : D → Option Bool
  | .exv c _ => some (decide (c = k) || decide (k = 0))
  | _ => none
def isiD (st : Store) (t : Ty) (d : D) : Option Bool := match t with
  | .exc k => isX k d
  | t => tyIs st t d
def tysIs (st : Store) : List Ty → D → Option Bool
  | [], _ => some false
  | t :: ts, d => match tyIs st t d, tysIs st ts d with
    | some a, some b => some (a || b)
    | _, _ => none
def mapO (f : D → Option PyData) : List D → Option (List PyData)
  | [] => some []
  | d :: ds => (f d).bind fun x => (mapO f ds).map fun xs => x :: xs
/-- the value as data, cells put in -/
def thaw (st : Store) : Nat → D → Option PyData
  | _, .non => some .none
  | _, .bl b => some (.bool b)
  | _, .int i => some (.int i)
  | _, .str s => some (.str s)
  | n + 1, .lst ds => (mapO (thaw st n) ds).map .list
  | n + 1, .tup ds => (mapO (thaw st n) ds).map .tuple
  | n + 1, .cel k => match st[k]? with
    | some (.lst ds) => (mapO (thaw st n) ds).map .list
    | _ => none
  | _, _ => none
/-- repr -/
def reprD (st : Store) (d : D) : Option Str := match d with
  | .dic [] => some (PyData.dict []).shown
  | d => (thaw st 9 d).bind fun x => if x.showable && decide (x.depth ≤ 64) && decide (x.shown.length ≤ line) then some x.shown else none
def alikeAll (ds : List PyData) : Bool := ds.all fun a => ds.all fun b => PySem.W.alike a b
def sortB (ds : List PyData) : Bool := (ds.all fun d => match d with
    | .tuple (_ :: _) => true
    | _ => false) || (ds.all fun d => match d with
    | .none => false
    | .tuple _ => false
    | _ => true)
def deepOk (ds : List PyData) : Bool := ds.all fun d => decide (d.depth ≤ 64)
def sortD (st : Store) (d : D) : Option D := match snap st d with
  | some (.lst ds) => if alikeAll (toPs ds) && sortB (toPs ds) && deepOk (toPs ds) && decide (ds.length ≤ line) then some (.lst (ds.mergeSort (PySem.W.dataLe false toP))) else none
  | _ => none
def maxI : List Int → Option Int
  | [] => none
  | [a] => some a
  | a :: r => (maxI r).map fun b => if a < b then b else a
def bltD (st : Store) (b : Bf) (as : List D) : Option D := match b, as with
  | .len, [a] => (lenD st a).map fun (n : Nat) => .int (n : Int)
  | .any, [a] => ((items st a).bind blsD).map fun bs => .bl (bs.any id)
  | .all, [a] => ((items st a).bind blsD).map fun bs => .bl (bs.all id)
  | .sum, [a] => match a with
    | .scr ns => some (.int ns.sum)
    | _ => ((items st a).bind intsD).map fun ns => .int ns.sum
  | .max, [a] => ((items st a).bind intsD).bind fun ns => (maxI ns).map .int
  | .max2, [.int i, .int j] => some (.int (if j > i then j else i))
  | .min2, [.int i, .int j] => some (.int (if j < i then j else i))
  | .abs, [.int i] => some (.int (if i < 0 then -i else i))
  | .sorted, [a] => sortD st a
  | .int, [.int i] => some (.int i)
  | .int, [.bl k] => some (.int (if k then 1 else 0))
  | .int, [.str z] => if z.length ≤ 640 then (intText? z).map .int else none
  | .repr, [a] => (reprD st a).map .str
  | .str, [a] => match a with
    | .int i => if i.natAbs.log2 < 1920 then some (.str (toString i)) else none
    | .str z => some (.str z)
    | .lst ds => (reprD st (.lst ds)).map .str
    | .cel k => (reprD st (.cel k)).map .str
    | _ => none
  | .list, [a] => match a with
    | .tup xs => some (.lst xs)
    | _ => (items st a).map .lst
  | .tuple, [a] => match a with
    | .tup xs => some (.tup xs)
    | _ => (items st a).map .tup
  | .isi t, [a] => (isiD st t a).map .bl
  | .isis ts, [a] => (tysIs st ts a).map .bl
  | .ord, [.str x] => if x.length = 1 then some (.int (x.cps.getD 0 0 : Nat)) else none
  | .lrng, [.int i] => if decide (-(2 ^ 62) ≤ i) && decide (i ≤ line) then some (.lst ((List.range i.toNat).map fun (k : Nat) => .int (k : Int))) else none
  | _, _ => none
def idxD (x : PyData) : List PyData → Nat → Option Nat
  | [], _ => none
  | y :: r, n => if PyData.eqv y x then some n else idxD x r (n + 1)
def metD (st : Store) (m : Mt) (a : D) (as : List D) : Option (D × Store) := match m, as with
  | .append, [x] => match a with
    | .cel k => match st[k]? with
      | some (.lst ds) => if ds.length < line then some (.non, st.set k (.lst (ds ++ [x]))) else none
      | _ => none
    | _ => none
  | .pop, [] => match a with
    | .cel k => match st[k]? with
      | some (.lst ds) => (ds[ds.length - 1]?).map fun y => (y, st.set k (.lst ds.dropLast))
      | _ => none
    | _ => none
  | .popAt, [.int i] => match a with
    | .cel k => match st[k]? with
      | some (.lst ds) => if ds.length ≤ line then (match L2.ixN ds.length i with
        | some j => (ds[j]?).map fun y => (y, st.set k (.lst (ds.eraseIdx j)))
        | none => none) else none
      | _ => none
    | _ => none
  | .split, [.str b] => match a with
    | .str z => if decide (0 < b.length) && decide (z.length + 2 ≤ line) then some (.lst ((Txt.split z b).map .str), st) else none
    | _ => none
  | .join, [x] => match a with
    | .str z => match (items st x).bind strsD with
      | some ys => if (ys.map (·.length)).sum + ys.length * z.length ≤ line then some (.str (Txt.join z ys), st) else none
      | none => none
    | _ => none
  | .index, [x] => match snap st a, snap st x with
    | some (.lst ds), some y => if SeqAt.shaped (.list (toPs ds)) && SeqAt.shaped (toP y) then (idxD (toP y) (toPs ds) 0).map fun (n : Nat) => (.int (n : Int), st) else none
    | _, _ => none
  | _, _ => none

/-- whose method it is -/
def metTy (st : Store) (m : Mt) (x : D) : Bool := match m with
  | .join => (match x with
    | .str _ => true
    | _ => false)
  | .split => (match x with
    | .str _ => true
    | _ => false)
  | .bits => false
  | _ => (items st x).isSome
/-! ### the evaluator -/
structure Cxt where
  cal : Nat → List D → Store → R D
  con : Nat → Option D
  whl : Nat
  nf : Nat
def pick (ix : List Nat) (ds : List α) : Option (List α) := match ix with
  | [] => some []
  | i :: r => (ds[i]?).bind fun d => (pick r ds).map fun rs => d :: rs
def wipe (ρ : Sl) : List Nat → Sl
  | [] => ρ
  | v :: vs => (wipe ρ vs).set v none
/-- names stored: one, or several from a tuple -/
def asg1 (tg : List Nat) (ds : List D) (ρ : Sl) : Option Sl := match tg, ds with
  | [], [] => some ρ
  | i :: is, d :: ds => if i < ρ.length then asg1 is ds (ρ.set i (some d)) else none
  | _, _ => none
def asgT (tg : List Nat) (tp : Bool) (d : D) (ρ : Sl) : Option Sl := if tp then (match d with
    | .tup ds => asg1 tg ds ρ
    | _ => none) else asg1 tg [d] ρ
/-- what is walked: its items; for a cell, the cell -/
structure Walk where
  its : List D
  cell : Option Nat := none
/-- a cell that is walked stands as it was -/
def still (w : Walk) (st : Store) : Bool := match w.cell with
  | none => true
  | some k => match st[k]? with
    | some (.lst ds) => sameL ds w.its
    | _ => false
def lcGo (w : Walk) (f : D → Store → R (Option D)) : List D → List D → Store → R (List D)
  | [], acc, st => if still w st then .ok acc st else .bad
  | d :: ds, acc, st => if still w st then (f d st).bind fun o st => match o with
    | some y => if acc.length < line then lcGo w f ds (acc ++ [y]) st else .bad
    | none => lcGo w f ds acc st else .bad
def noExc {α : Type} (r : R α) : R α := match r with
  | .ok a st => .ok a st
  | _ => .bad
def tb (d : D) : Option Bool := match d with
  | .bl b => some b
  | _ => none
def pairs (n : Nat) : List D → List D
  | [] => []
  | d :: ds => .tup [.int n, d] :: pairs (n + 1) ds
mutual
def ev (c : Cxt) : Ex → Sl → Store → R D
  | .nm i, ρ, st => match ρ[i]? with
    | some (some d) => .ok d st
    | _ => .bad
  | .kn d, _, st => .ok d st
  | .con g, _, st => ofO (c.con g) st
  | .bin op a b, ρ, st => (ev c a ρ st).bind fun x st => (ev c b ρ st).bind fun y st => ofO (binD st op x y) st
  | .neg a, ρ, st => (ev c a ρ st).bind fun x st => match x with
    | .int i => .ok (.int (-i)) st
    | _ => .bad
  | .cmp op a b, ρ, st => (ev c a ρ st).bind fun x st => (ev c b ρ st).bind fun y st => ofO ((cmpD st op x y).map .bl) st
  | .chn o p a b d, ρ, st => (ev c a ρ st).bind fun x st => (ev c b ρ st).bind fun y st => match cmpD st o x y with
    | some true => (ev c d ρ st).bind fun z st => ofO ((cmpD st p y z).map .bl) st
    | some false => .ok (.bl false) st
    | none => .bad
  | .and a b, ρ, st => (ev c a ρ st).bind fun x st => match x with
    | .bl true => ev c b ρ st
    | .bl false => .ok (.bl false) st
    | _ => .bad
  | .or a b, ρ, st => (ev c a ρ st).bind fun x st => match x with
    | .bl true => .ok (.bl true) st
    | .bl false => ev c b ρ st
    | _ => .bad
  | .not a, ρ, st => (ev c a ρ st).bind fun x st => match x with
    | .bl k => .ok (.bl (!k)) st
    | _ => .bad
  | .ife t a b, ρ, st => (ev c t ρ st).bind fun x st => match x with
    | .bl true => ev c a ρ st
    | .bl false => ev c b ρ st
    | _ => .bad
  | .lst es, ρ, st => (evs c es ρ st).bind fun ds st => if ds.length ≤ line then .ok (.lst ds) st else .bad
  | .tup es, ρ, st => (evs c es ρ st).bind fun ds st => if ds.length ≤ line then .ok (.tup ds) st else .bad
  | .dic0, _, st => .ok (.dic []) st
  | .sub a b, ρ, st => (ev c a ρ st).bind fun x st => (ev c b ρ st).bind fun y st => ofO (subD st x y) st
  | .slc a lo hi, ρ, st => (ev c a ρ st).bind fun x st => (evo c lo ρ st).bind fun l st => (evo c hi ρ st).bind fun h st => ofO (slcD st x l h) st
  | .rev a, ρ, st => (ev c a ρ st).bind fun x st => ofO ((items st x).map fun xs => .lst xs.reverse) st
  | .rvb a n, ρ, st => (ev c a ρ st).bind fun x st => ofO ((items st x).map fun xs => .lst (xs.drop (n + 1)).reverse) st
  | .lc x tg tp s i own, ρ, st => (evw c s ρ st).bind fun w st => (noExc (lcGo w (fun d st => match asgT tg tp d (wipe ρ own) with
      | none => .bad
      | some ρ1 => (evt c i ρ1 st).bind fun b st => if b then (ev c x ρ1 st).bind fun y st => .ok (some y) st else .ok none st) w.its [] st)).bind fun ys st => .ok (.lst ys) st
  | .cal f es, ρ, st => (evs c es ρ st).bind fun ds st => c.cal f ds st
  | .fn f, _, st => .ok (.fn f) st
  | .cav i es, ρ, st => match ρ[i]? with
    | some (some (.fn f)) => if f < c.nf then (evs c es ρ st).bind fun ds st => c.cal f ds st else .bad
    | _ => .bad
  | .cak f es ks ix, ρ, st => (evs c es ρ st).bind fun ds st => (evs c ks ρ st).bind fun es st => match pick ix (ds ++ es) with
    | some rs => c.cal f rs st
    | none => .bad
  | .val e, ρ, st => (ev c e ρ st).bind fun x st => match x with
    | .exv _ d => .ok d st
    | _ => .bad
  | .pur f es, ρ, st => (evs c es ρ st).bind fun ds st => if freeDs ds then (match c.cal f ds [] with
      | .ok d _ => if freeD d then .ok d st else .bad
      | .exc k d _ => if freeD d then .exc k d st else .bad
      | .bad => .bad) else .bad
  | .blt b es, ρ, st => (evs c es ρ st).bind fun ds st => ofO (bltD st b ds) st
  | .met m a es, ρ, st => (ev c a ρ st).bind fun x st => if metTy st m x then (evs c es ρ st).bind fun ds st => match metD st m x ds with
    | some (d, st) => .ok d st
    | none => .bad else .bad
  | .mk e, ρ, st => (ev c e ρ st).bind fun x st => match x with
    | .lst ds => .ok (.cel st.length) (st ++ [.lst ds])
    | _ => .bad
  | .frz e, ρ, st => (ev c e ρ st).bind fun x st => match x with
    | .cel k => match st[k]? with
      | some (.lst ds) => .ok (.lst ds) (st.set k .gone)
      | _ => .bad
    | _ => .bad
def evs (c : Cxt) : Exs → Sl → Store → R (List D)
  | .nil, _, st => .ok [] st
  | .cons e es, ρ, st => (ev c e ρ st).bind fun x st => (evs c es ρ st).bind fun xs st => .ok (x :: xs) st
/-- a part of a slice -/
def evo (c : Cxt) : Ox → Sl → Store → R (Option Int)
  | .non, _, st => .ok none st
  | .som e, ρ, st => (ev c e ρ st).bind fun x st => match x with
    | .int i => .ok (some i) st
    | _ => .bad
/-- a test, if there is one -/
def evt (c : Cxt) : Ox → Sl → Store → R Bool
  | .non, _, st => .ok true st
  | .som e, ρ, st => (ev c e ρ st).bind fun x st => ofO (tb x) st
def evw (c : Cxt) : Sr → Sl → Store → R Walk
  | .lis e, ρ, st => (ev c e ρ st).bind fun x st => match x with
    | .lst ds => .ok { its := ds } st
    | .scr ns => .ok { its := ns.map .int } st
    | .cel k => match st[k]? with
      | some (.lst ds) => .ok { its := ds, cell := some k } st
      | _ => .bad
    | _ => .bad
  | .tpl e, ρ, st => (ev c e ρ st).bind fun x st => match x with
    | .tup ds => .ok { its := ds } st
    | _ => .bad
  | .txt e, ρ, st => (ev c e ρ st).bind fun x st => match x with
    | .str z => .ok { its := z.cps.toList.map fun k => .str ⟨#[k]⟩ } st
    | _ => .bad
  | .rg1 e, ρ, st => (ev c e ρ st).bind fun x st => match x with
    | .int n => if decide (-(2 ^ 62) ≤ n) && decide (n < 2 ^ 62) then .ok { its := (List.range n.toNat).map fun (k : Nat) => .int (k : Int) } st else .bad
    | _ => .bad
  | .rg2 a b, ρ, st => (ev c a ρ st).bind fun x st => (ev c b ρ st).bind fun y st => match x, y with
    | .int l, .int h => if decide (-(2 ^ 62) ≤ l) && decide (l < 2 ^ 62) && decide (-(2 ^ 62) ≤ h) && decide (h < 2 ^ 62) then .ok { its := (List.range (h - l).toNat).map fun (k : Nat) => .int (l + (k : Int)) } st else .bad
    | _, _ => .bad
  | .enu e, ρ, st => (ev c e ρ st).bind fun x st => match x with
    | .lst ds => .ok { its := pairs 0 ds } st
    | _ => .bad
  | .zip _ a b, ρ, st => (ev c a ρ st).bind fun x st => (ev c b ρ st).bind fun y st => match x, y with
    | .lst xs, .lst ys => if xs.length = ys.length then .ok { its := (xs.zip ys).map fun p => .tup [p.1, p.2] } st else .bad
    | .tup xs, .tup ys => if xs.length = ys.length then .ok { its := (xs.zip ys).map fun p => .tup [p.1, p.2] } st else .bad
    | _, _ => .bad
end

/-! ### statements -/
inductive E where
  | nx (ρ : Sl) (st : Store) | rt (d : D) (st : Store) | bk (ρ : Sl) (st : Store) | ct (ρ : Sl) (st : Store)
  | exc (c : Nat) (d : D) (ρ : Sl) (st : Store) | bad
def R.thn {α : Type} (r : R α) (ρ : Sl) (f : α → Store → E) : E := match r with
  | .ok a st => f a st
  | .exc c d st => .exc c d ρ st
  | .bad => .bad
@[simp] theorem R.thn_ok {α : Type} {a : α} {st : Store} {ρ : Sl} {f : α → Store → E} : (R.ok a st).thn ρ f = f a st := (rfl)
@[simp] theorem R.thn_exc {α : Type} {c : Nat} {d : D} {st : Store} {ρ : Sl} {f : α → Store → E} : (R.exc c d st : R α).thn ρ f = .exc c d ρ st := (rfl)
@[simp] theorem R.thn_bad {α : Type} {ρ : Sl} {f : α → Store → E} : (R.bad : R α).thn ρ f = .bad := (rfl)
def ofS (o : Option Sl) (st : Store) : E := match o with
  | some ρ => .nx ρ st
  | none => .bad
@[simp] theorem ofS_some {ρ : Sl} {st : Store} : ofS (some ρ) st = .nx ρ st := (rfl)
@[simp] theorem ofS_none {st : Store} : ofS none st = .bad := (rfl)
def set1 (i : Nat) (d : D) (ρ : Sl) : Option Sl := if i < ρ.length then some (ρ.set i (some d)) else none
/-- a[i] = d -/
def stiD (st : Store) (a i d : D) : Option Store := match a, i with
  | .cel k, .int j => match st[k]? with
    | some (.lst ds) => (L2.ixN ds.length j).map fun n => st.set k (.lst (ds.set n d))
    | _ => none
  | _, _ => none
/-- a[i] of a cell, i from the left -/
def getD (st : Store) (a i : D) : Option D := match a, i with
  | .cel k, .int j => if 0 ≤ j then (match st[k]? with
    | some (.lst ds) => if ds.length ≤ line then ds[j.toNat]? else none
    | _ => none) else none
  | _, _ => none
def forGo (w : Walk) (f : D → Sl → Store → E) : List D → Sl → Store → E
  | [], ρ, st => if still w st then .nx ρ st else .bad
  | d :: ds, ρ, st => if still w st then (match f d ρ st with
    | .nx ρ st => forGo w f ds ρ st
    | .ct ρ st => forGo w f ds ρ st
    | .bk ρ st => .nx ρ st
    | r => r) else .bad
def whlGo (t : Sl → Store → R Bool) (f : Sl → Store → E) : Nat → Sl → Store → E
  | 0, _, _ => .bad
  | n + 1, ρ, st => (t ρ st).thn ρ fun b st => if b then (match f ρ st with
    | .nx ρ st => whlGo t f n ρ st
    | .ct ρ st => whlGo t f n ρ st
    | .bk ρ st => .nx ρ st
    | r => r) else .nx ρ st
def hval (r : Bool) (d : D) (st : Store) : Option D := if r then (reprD st d).map .str else some d
def hnd (h : Hn) (i k : Nat) (d : D) (ρ : Sl) (st : Store) : E := match h with
  | .keep j => if decide (i < ρ.length) && decide (j < ρ.length) && decide (i ≠ j) then .nx ((ρ.set j (some (.exv k d))).set i none) st else .bad
  | .put j r => match hval r d st with
    | some x => if decide (i < ρ.length) && decide (j < ρ.length) && decide (i ≠ j) then .nx ((ρ.set j (some x)).set i none) st else .bad
    | none => .bad
  | .add j r => match hval r d st, ρ[j]? with
    | some x, some (some a) => (match metD st .append a [x] with
      | some (_, st) => if decide (i < ρ.length) && decide (i ≠ j) then .nx (ρ.set i none) st else .bad
      | none => .bad)
    | _, _ => .bad
mutual
def ex (c : Cxt) : Sm → Sl → Store → E
  | .set i e, ρ, st => (ev c e ρ st).thn ρ fun d st => ofS (set1 i d ρ) st
  | .par is es, ρ, st => (evs c es ρ st).thn ρ fun ds st => ofS (asg1 is ds ρ) st
  | .unp is e, ρ, st => (ev c e ρ st).thn ρ fun d st => ofS (asgT is true d ρ) st
  | .sti a i e, ρ, st => (ev c e ρ st).thn ρ fun d st => (ev c a ρ st).thn ρ fun x st => (ev c i ρ st).thn ρ fun y st => match stiD st x y d with
    | some st => .nx ρ st
    | none => .bad
  | .aug i op e, ρ, st => match ρ[i]? with
    | some (some (.int a)) => (ev c e ρ st).thn ρ fun y st => match y with
      | .int b => (match binI op a b with
        | some z => ofS (set1 i z ρ) st
        | none => .bad)
      | _ => .bad
    | _ => .bad
  | .agi a i op e, ρ, st => (ev c a ρ st).thn ρ fun x st => (ev c i ρ st).thn ρ fun y st => match getD st x y with
    | some (.int p) => (ev c e ρ st).thn ρ fun q st => (match q with
      | .int q => (match binI op p q with
        | some z => (match stiD st x y z with
          | some st => .nx ρ st
          | none => .bad)
        | none => .bad)
      | _ => .bad)
    | _ => .bad
  | .exp e, ρ, st => (ev c e ρ st).thn ρ fun _ st => .nx ρ st
  | .ret e, ρ, st => (ev c e ρ st).thn ρ fun d st => .rt d st
  | .ife t a b, ρ, st => (ev c t ρ st).thn ρ fun x st => match x with
    | .bl true => exs c a ρ st
    | .bl false => exs c b ρ st
    | _ => .bad
  | .for_ tg tp s b, ρ, st => (evw c s ρ st).thn ρ fun w st => forGo w (fun d ρ st => match asgT tg tp d ρ with
    | some ρ => exs c b ρ st
    | none => .bad) w.its ρ st
  | .whl t b, ρ, st => whlGo (fun ρ st => (ev c t ρ st).bind fun x st => ofO (tb x) st) (exs c b) c.whl ρ st
  | .brk, ρ, st => .bk ρ st
  | .cnt, ρ, st => .ct ρ st
  | .pas, ρ, st => .nx ρ st
  | .rai k e, ρ, st => (ev c e ρ st).thn ρ fun d st => .exc k d ρ st
  | .tri b cs no i h, ρ, st => match exs c b ρ st with
    | .exc k d ρ st => if cs.contains k then hnd h i k d ρ st else if no.contains k then .exc k d ρ st else .bad
    | r => r
def exs (c : Cxt) : Sms → Sl → Store → E
  | .nil, ρ, st => .nx ρ st
  | .cons s ss, ρ, st => match ex c s ρ st with
    | .nx ρ st => exs c ss ρ st
    | r => r
end
/-! ### defs -/
structure Fn where
  ar : Nat
  sl : Nat
  body : Sms
def run1 (c : Cxt) (f : Fn) (ds : List D) (st : Store) : R D := if ds.length = f.ar then (match exs c f.body (ds.map some ++ List.replicate (f.sl - ds.length) none) st with
    | .nx _ st => .ok .non st
    | .rt d st => .ok d st
    | .exc k d _ st => .exc k d st
    | _ => .bad) else .bad
def run (P : Nat → Option Fn) (con : Nat → Option D) (w nf : Nat) : Nat → Nat → List D → Store → R D
  | 0, _, _, _ => .bad
  | n + 1, f, ds, st => match P f with
    | some fn => run1 ⟨run P con w nf n, con, w, nf⟩ fn ds st
    | none => .bad
end MP
end
section
set_option maxRecDepth 100000
set_option maxHeartbeats 4000000
/-! MPRel: how the evaluator's values stand in the hand layer's heap. -/
namespace MP
open PySem L2
/-- where the module's functions and classes stand -/
class Glo where
  fn : Nat → Addr
  cl : Nat → Addr
  nx : Nat
variable [Glo]
/-- an exception's object: its class, its dict -/
def ExAt (c dx a : Addr) : HO := .ext fun h => ∃ (o : Obj) (vs : Array Value), h.get? a = some o ∧ o.cls = .ref c ∧ o.dict = some dx ∧ o.data = .fields vs

/-- where the cells stand; what else is not to be leant on; the store -/
structure Fr where
  al : Nat → Addr
  ex : Addr → Prop
  st : Store
def Live (st : Store) (k : Nat) : Prop := ∃ o, st[k]? = some o ∧ o ≠ .gone
/-- what may change -/
def Fr.un (F : Fr) (a : Addr) : Prop := F.ex a ∨ ∃ k, Live F.st k ∧ F.al k = a

mutual
def Rep (F : Fr) (H : Hp) : D → V → Prop
  | .non, v => v = .non
  | .bl b, v => v = .bl b
  | .int i, v => v = .int i
  | .str s, v => v = .str s
  | .lst ds, v => ∃ a vs, v = .ref a ∧ ¬ F.un a ∧ H a = some (.lst vs) ∧ Reps F H ds vs
  | .tup ds, v => ∃ a vs, v = .ref a ∧ ¬ F.un a ∧ H a = some (.tup vs) ∧ Reps F H ds vs
  | .dic kvs, v => ∃ a us, v = .ref a ∧ ¬ F.un a ∧ H a = some (.dK us) ∧ RepK F H kvs us
  | .scr ns, v => ∃ a o, v = .ref a ∧ ¬ F.un a ∧ H a = some (.frz o (.lst (ns.map V.int)))
  | .cel k, v => v = .ref (F.al k) ∧ k < F.st.length
  | .exv k d, v => k < Glo.nx ∧ ∃ a dx u, v = .ref a ∧ ¬ F.un a ∧ H a = some (ExAt (Glo.cl k) dx a) ∧ ¬ F.un dx ∧ H dx = some (.xd [(("value" : Str), u)]) ∧ Rep F H d u
  | .fn f, v => v = .ref (Glo.fn f)
def Reps (F : Fr) (H : Hp) : List D → List V → Prop
  | [], vs => vs = []
  | d :: ds, vs => ∃ v r, vs = v :: r ∧ Rep F H d v ∧ Reps F H ds r
def RepK (F : Fr) (H : Hp) : List (Key × D) → List (Key × V) → Prop
  | [], us => us = []
  | p :: ps, us => ∃ v r, us = (p.1, v) :: r ∧ Rep F H p.2 v ∧ RepK F H ps r
end

def CellOk (F : Fr) (H : Hp) (a : Addr) : Cell → Prop
  | .lst ds => ∃ vs, H a = some (.lst vs) ∧ Reps F H ds vs
  | .dic kvs => ∃ us, H a = some (.dK us) ∧ RepK F H kvs us
  | .gone => True
/-- the store stands in the heap -/
structure Sto (F : Fr) (H : Hp) : Prop where
  ce : ∀ k o, F.st[k]? = some o → CellOk F H (F.al k) o
  inj : ∀ j k, Live F.st j → Live F.st k → F.al j = F.al k → j = k
  nex : ∀ k, Live F.st k → ¬ F.ex (F.al k)
  ext : ∀ a, F.ex a → H a ≠ none
/-- the slots -/
def Slo (F : Fr) (H : Hp) (ρ : Sl) (σ : St) : Prop := ρ.length = σ.length ∧ ∀ (i : Nat) (d : D), ρ[i]? = some (some d) → ∃ v, σ[i]? = some (some v) ∧ Rep F H d v

/-- from one moment to a later one -/
structure Ext (F : Fr) (H : Hp) (F' : Fr) (H' : Hp) : Prop where
  al : ∀ k, k < F.st.length → F'.al k = F.al k
  ex : ∀ a, H a ≠ none → (F'.ex a ↔ F.ex a)
  len : F.st.length ≤ F'.st.length
  lv : ∀ k, k < F.st.length → Live F'.st k → Live F.st k
  new : ∀ k, F.st.length ≤ k → Live F'.st k → H (F'.al k) = none
  there : ∀ a, H' a = none → H a = none
  keep : ∀ a o, H a = some o → (∀ k, Live F.st k → F.al k ≠ a) → H' a = some o

theorem Live.lt {st : Store} {k : Nat} (h : Live st k) : k < st.length := by
  obtain ⟨o, e, _⟩ := h
  exact (List.getElem?_eq_some_iff.mp e).1

section
variable {F F' F'' : Fr} {H H' H'' : Hp}
theorem Ext.refl (F : Fr) (H : Hp) : Ext F H F H :=
  ⟨fun _ _ => rfl, fun _ _ => Iff.rfl, Nat.le_refl _, fun _ _ h => h, fun k hk h => absurd h.lt (Nat.not_lt.mpr hk), fun _ e => e, fun _ _ e _ => e⟩
theorem Ext.trans (a : Ext F H F' H') (b : Ext F' H' F'' H'') : Ext F H F'' H'' := by
  refine ⟨fun k hk => (b.al k (Nat.lt_of_lt_of_le hk a.len)).trans (a.al k hk), fun x hx => (b.ex x (fun z => hx (a.there x z))).trans (a.ex x hx), Nat.le_trans a.len b.len, fun k hk h => a.lv k hk (b.lv k (Nat.lt_of_lt_of_le hk a.len) h), fun k hk h => ?_, fun x e => a.there x (b.there x e), fun x o e hn => ?_⟩
  · by_cases hk' : k < F'.st.length
    · rw [b.al k hk']
      exact a.new k hk (b.lv k hk' h)
    · exact a.there _ (b.new k (Nat.le_of_not_lt hk') h)
  · refine b.keep x o (a.keep x o e hn) fun k hk ek => ?_
    by_cases hk' : k < F.st.length
    · exact hn k (a.lv k hk' hk) ((a.al k hk').symm.trans ek)
    · have z := a.new k (Nat.le_of_not_lt hk') hk
      rw [ek, e] at z
      cases z
/-- what could not change before cannot now -/
theorem Ext.un (x : Ext F H F' H') {a : Addr} {o : HO} (e : H a = some o) (h : ¬ F.un a) : ¬ F'.un a := by
  rintro (h1 | ⟨k, hk, ek⟩)
  · exact h (.inl ((x.ex a (by rw [e]; exact fun z => nomatch z)).mp h1))
  · by_cases hk' : k < F.st.length
    · exact h (.inr ⟨k, x.lv k hk' hk, (x.al k hk').symm.trans ek⟩)
    · have z := x.new k (Nat.le_of_not_lt hk') hk
      rw [ek, e] at z
      cases z
theorem Ext.stay (x : Ext F H F' H') {a : Addr} {o : HO} (e : H a = some o) (h : ¬ F.un a) : H' a = some o := x.keep a o e fun k hk ek => h (.inr ⟨k, hk, ek⟩)
mutual
theorem Rep.ext (x : Ext F H F' H') : ∀ (d : D) (v : V), Rep F H d v → Rep F' H' d v
  | .non, _, h => h
  | .bl _, _, h => h
  | .int _, _, h => h
  | .str _, _, h => h
  | .lst ds, v, ⟨a, vs, e, hu, ha, hs⟩ => ⟨a, vs, e, x.un ha hu, x.stay ha hu, Reps.ext x ds vs hs⟩
  | .tup ds, v, ⟨a, vs, e, hu, ha, hs⟩ => ⟨a, vs, e, x.un ha hu, x.stay ha hu, Reps.ext x ds vs hs⟩
  | .dic ds, v, ⟨a, vs, e, hu, ha, hs⟩ => ⟨a, vs, e, x.un ha hu, x.stay ha hu, RepK.ext x ds vs hs⟩
  | .scr ns, v, ⟨a, o, e, hu, ha⟩ => ⟨a, o, e, x.un ha hu, x.stay ha hu⟩
  | .cel k, v, ⟨e, hk⟩ => ⟨by rw [x.al k hk]; exact e, Nat.lt_of_lt_of_le hk x.len⟩
  | .exv k d, v, ⟨hk, a, dx, u, e, hu, ha, hx, hd, hr⟩ => ⟨hk, a, dx, u, e, x.un ha hu, x.stay ha hu, x.un hd hx, x.stay hd hx, Rep.ext x d u hr⟩
  | .fn _, _, h => h
theorem Reps.ext (x : Ext F H F' H') : ∀ (ds : List D) (vs : List V), Reps F H ds vs → Reps F' H' ds vs
  | [], _, h => h
  | d :: ds, _, ⟨v, r, e, h1, h2⟩ => ⟨v, r, e, Rep.ext x d v h1, Reps.ext x ds r h2⟩
theorem RepK.ext (x : Ext F H F' H') : ∀ (ds : List (Key × D)) (vs : List (Key × V)), RepK F H ds vs → RepK F' H' ds vs
  | [], _, h => h
  | (k, d) :: ds, _, ⟨v, r, e, h1, h2⟩ => ⟨v, r, e, Rep.ext x d v h1, RepK.ext x ds r h2⟩
end
theorem Slo.ext (x : Ext F H F' H') {ρ : Sl} {σ : St} (h : Slo F H ρ σ) : Slo F' H' ρ σ := ⟨h.1, fun i d e => by
  obtain ⟨v, e1, e2⟩ := h.2 i d e
  exact ⟨v, e1, e2.ext x⟩⟩
theorem Reps.length : ∀ {ds : List D} {vs : List V}, Reps F H ds vs → ds.length = vs.length
  | [], _, h => by
    have h : _ = [] := h
    rw [h]
    rfl
  | d :: ds, _, ⟨v, r, e, _, h2⟩ => by
    rw [e]
    exact congrArg Nat.succ h2.length
theorem Reps.get : ∀ {ds : List D} {vs : List V} {i : Nat} {d : D}, Reps F H ds vs → ds[i]? = some d → ∃ v, vs[i]? = some v ∧ Rep F H d v
  | [], _, _, _, _, e => by simp at e
  | d :: ds, _, 0, d', ⟨v, r, e, h1, _⟩, q => by
    simp at q
    subst q e
    exact ⟨v, rfl, h1⟩
  | d :: ds, _, i + 1, d', ⟨v, r, e, _, h2⟩, q => by
    subst e
    exact h2.get (i := i) (by simpa using q)
theorem Reps.append : ∀ {ds es : List D} {vs us : List V}, Reps F H ds vs → Reps F H es us → Reps F H (ds ++ es) (vs ++ us)
  | [], _, _, _, h, h' => by
    have h : _ = [] := h
    rw [h]
    exact h'
  | d :: ds, es, _, us, ⟨v, r, e, h1, h2⟩, h' => by
    subst e
    exact ⟨v, r ++ us, rfl, h1, h2.append h'⟩
theorem Reps.one {d : D} {v : V} (h : Rep F H d v) : Reps F H [d] [v] := ⟨v, [], rfl, h, rfl⟩
theorem Reps.set : ∀ {ds : List D} {vs : List V} {d : D} {v : V} (i : Nat), Reps F H ds vs → Rep F H d v → Reps F H (ds.set i d) (vs.set i v)
  | [], _, _, _, _, h, _ => by
    have h : _ = [] := h
    rw [h]
    rfl
  | _ :: ds, _, d, v, 0, ⟨w, r, e, _, h2⟩, q => by
    subst e
    exact ⟨v, r, rfl, q, h2⟩
  | _ :: ds, _, d, v, i + 1, ⟨w, r, e, h1, h2⟩, q => by
    subst e
    exact ⟨w, _, rfl, h1, h2.set i q⟩

theorem CellOk.some {a : Addr} {o : Cell} (h : CellOk F H a o) (ho : o ≠ .gone) : H a ≠ none := by
  cases o with
  | lst ds => obtain ⟨vs, e, _⟩ := h; rw [e]; exact fun z => nomatch z
  | dic ds => obtain ⟨vs, e, _⟩ := h; rw [e]; exact fun z => nomatch z
  | gone => exact absurd rfl ho
theorem Sto.there (s : Sto F H) {k : Nat} (h : Live F.st k) : H (F.al k) ≠ none := by
  obtain ⟨o, e, ho⟩ := h
  exact (s.ce k o e).some ho
/-- a place where nothing stands may be leant on -/
theorem Sto.nun (s : Sto F H) {p : Addr} (hp : H p = none) : ¬ F.un p := by
  rintro (h | ⟨k, hk, e⟩)
  · exact s.ext p h hp
  · exact s.there hk (by rw [e]; exact hp)
/-- a new object -/
theorem Ext.fresh (F : Fr) {H : Hp} {p : Addr} (o : HO) (hp : H p = none) : Ext F H F (upd H p o) :=
  ⟨fun _ _ => rfl, fun _ _ => Iff.rfl, Nat.le_refl _, fun _ _ h => h, fun k hk h => absurd h.lt (Nat.not_lt.mpr hk), fun a e => by
    by_cases q : a = p
    · rw [q]; exact hp
    · rw [upd_ne q] at e; exact e, fun a u e _ => by rw [upd_ne (ne_of_none e hp)]; exact e⟩
theorem Sto.fresh (s : Sto F H) {p : Addr} (o : HO) (hp : H p = none) : Sto F (upd H p o) := by
  have x := Ext.fresh F o hp
  refine ⟨fun k c e => ?_, s.inj, s.nex, fun a h z => ?_⟩
  · by_cases hg : c = .gone
    · subst hg; trivial
    · have hl : Live F.st k := ⟨c, e, hg⟩
      have hn : F.al k ≠ p := fun z => s.there hl (by rw [z]; exact hp)
      have q := s.ce k c e
      have eq : upd H p o (F.al k) = H (F.al k) := upd_ne hn
      cases c with
      | lst ds =>
        obtain ⟨vs, q1, r⟩ := q
        exact ⟨vs, eq.trans q1, r.ext x⟩
      | dic ds =>
        obtain ⟨vs, q1, r⟩ := q
        exact ⟨vs, eq.trans q1, r.ext x⟩
      | gone => trivial
  · exact s.ext a h (x.there a z)
/-! ### a place of one's own -/
mutual
theorem repO {H H' : Hp} (go : ∀ a, ¬ F.un a → ∀ u, H a = some u → H' a = some u) : ∀ (d : D) (v : V), Rep F H d v → Rep F H' d v
  | .non, _, h => h
  | .bl _, _, h => h
  | .int _, _, h => h
  | .str _, _, h => h
  | .lst ds, v, ⟨a, vs, e, hu, ha, hs⟩ => ⟨a, vs, e, hu, go a hu _ ha, repsO go ds vs hs⟩
  | .tup ds, v, ⟨a, vs, e, hu, ha, hs⟩ => ⟨a, vs, e, hu, go a hu _ ha, repsO go ds vs hs⟩
  | .dic ds, v, ⟨a, vs, e, hu, ha, hs⟩ => ⟨a, vs, e, hu, go a hu _ ha, repkO go ds vs hs⟩
  | .scr ns, v, ⟨a, o, e, hu, ha⟩ => ⟨a, o, e, hu, go a hu _ ha⟩
  | .cel k, v, h => h
  | .exv k d, v, ⟨hk, a, dx, u, e, hu, ha, hx, hd, hr⟩ => ⟨hk, a, dx, u, e, hu, go a hu _ ha, hx, go dx hx _ hd, repO go d u hr⟩
  | .fn _, _, h => h
theorem repsO {H H' : Hp} (go : ∀ a, ¬ F.un a → ∀ u, H a = some u → H' a = some u) : ∀ (ds : List D) (vs : List V), Reps F H ds vs → Reps F H' ds vs
  | [], _, h => h
  | d :: ds, _, ⟨v, r, e, h1, h2⟩ => ⟨v, r, e, repO go d v h1, repsO go ds r h2⟩
theorem repkO {H H' : Hp} (go : ∀ a, ¬ F.un a → ∀ u, H a = some u → H' a = some u) : ∀ (ds : List (Key × D)) (vs : List (Key × V)), RepK F H ds vs → RepK F H' ds vs
  | [], _, h => h
  | (k, d) :: ds, _, ⟨v, r, e, h1, h2⟩ => ⟨v, r, e, repO go d v h1, repkO go ds r h2⟩
end
mutual
theorem repL {G : Fr} {H : Hp} (ea : ∀ k, k < F.st.length → G.al k = F.al k) (es : F.st.length ≤ G.st.length) (go : ∀ a, G.un a → F.un a) : ∀ (d : D) (v : V), Rep F H d v → Rep G H d v
  | .non, _, h => h
  | .bl _, _, h => h
  | .int _, _, h => h
  | .str _, _, h => h
  | .lst ds, v, ⟨a, vs, e, hu, ha, hs⟩ => ⟨a, vs, e, fun z => hu (go a z), ha, repsL ea es go ds vs hs⟩
  | .tup ds, v, ⟨a, vs, e, hu, ha, hs⟩ => ⟨a, vs, e, fun z => hu (go a z), ha, repsL ea es go ds vs hs⟩
  | .dic ds, v, ⟨a, vs, e, hu, ha, hs⟩ => ⟨a, vs, e, fun z => hu (go a z), ha, repkL ea es go ds vs hs⟩
  | .scr ns, v, ⟨a, o, e, hu, ha⟩ => ⟨a, o, e, fun z => hu (go a z), ha⟩
  | .cel k, v, h => by
    have h : v = .ref (F.al k) ∧ k < F.st.length := h
    show v = .ref (G.al k) ∧ k < G.st.length
    rw [ea k h.2]
    exact ⟨h.1, Nat.lt_of_lt_of_le h.2 es⟩
  | .exv k d, v, ⟨hk, a, dx, u, e, hu, ha, hx, hd, hr⟩ => ⟨hk, a, dx, u, e, fun z => hu (go a z), ha, fun z => hx (go dx z), hd, repL ea es go d u hr⟩
  | .fn _, _, h => h
theorem repsL {G : Fr} {H : Hp} (ea : ∀ k, k < F.st.length → G.al k = F.al k) (es : F.st.length ≤ G.st.length) (go : ∀ a, G.un a → F.un a) : ∀ (ds : List D) (vs : List V), Reps F H ds vs → Reps G H ds vs
  | [], _, h => h
  | d :: ds, _, ⟨v, r, e, h1, h2⟩ => ⟨v, r, e, repL ea es go d v h1, repsL ea es go ds r h2⟩
theorem repkL {G : Fr} {H : Hp} (ea : ∀ k, k < F.st.length → G.al k = F.al k) (es : F.st.length ≤ G.st.length) (go : ∀ a, G.un a → F.un a) : ∀ (ds : List (Key × D)) (vs : List (Key × V)), RepK F H ds vs → RepK G H ds vs
  | [], _, h => h
  | (k, d) :: ds, _, ⟨v, r, e, h1, h2⟩ => ⟨v, r, e, repL ea es go d v h1, repkL ea es go ds r h2⟩
end
/-- what stands at a place that nothing leans on changes -/
theorem Rep.other {D' : Addr} {o : HO} (hD : F.un D') : (∀ (d : D) (v : V), Rep F H d v → Rep F (upd H D' o) d v) ∧ (∀ (ds : List D) (vs : List V), Reps F H ds vs → Reps F (upd H D' o) ds vs) ∧ (∀ (ds : List (Key × D)) (vs : List (Key × V)), RepK F H ds vs → RepK F (upd H D' o) ds vs) := by
  have go : ∀ a, ¬ F.un a → ∀ u, H a = some u → upd H D' o a = some u := fun a hu u e => by
    rw [upd_ne fun z => hu (by rw [z]; exact hD)]
    exact e
  exact ⟨fun d v h => repO go d v h, fun d v h => repsO go d v h, fun d v h => repkO go d v h⟩
theorem Sto.other {D' : Addr} {o u : HO} (s : Sto F H) (hD : F.ex D') (e : H D' = some u) : Sto F (upd H D' o) := by
  obtain ⟨r1, r2, r3⟩ := Rep.other (F := F) (H := H) (D' := D') (o := o) (.inl hD)
  refine ⟨fun k c e => ?_, s.inj, s.nex, fun a h z => ?_⟩
  · by_cases hg : c = .gone
    · subst hg; trivial
    · have hl : Live F.st k := ⟨c, e, hg⟩
      have hn : F.al k ≠ D' := fun z => s.nex k hl (by rw [z]; exact hD)
      have q := s.ce k c e
      have eq : upd H D' o (F.al k) = H (F.al k) := upd_ne hn
      cases c with
      | lst ds =>
        obtain ⟨vs, q1, r⟩ := q
        exact ⟨vs, eq.trans q1, r2 _ _ r⟩
      | dic ds =>
        obtain ⟨vs, q1, r⟩ := q
        exact ⟨vs, eq.trans q1, r3 _ _ r⟩
      | gone => trivial
  · by_cases q : a = D'
    · subst q; rw [upd_same] at z; cases z
    · rw [upd_ne q] at z; exact s.ext a h z
theorem Ext.other {D' : Addr} {o : HO} (x : Ext F H F' H') (h : H D' = none) : Ext F H F' (upd H' D' o) :=
  ⟨x.al, x.ex, x.len, x.lv, x.new, fun a e => by
    by_cases q : a = D'
    · subst q; exact h
    · rw [upd_ne q] at e; exact x.there a e, fun a u e hn => by rw [upd_ne (ne_of_none e h)]; exact x.keep a u e hn⟩
/-- the frame with one place more, with one less -/
def Fr.add (F : Fr) (D' : Addr) : Fr := { F with ex := fun a => F.ex a ∨ a = D' }
def Fr.rem (F : Fr) (D' : Addr) : Fr := { F with ex := fun a => F.ex a ∧ a ≠ D' }
theorem Ext.add {D' : Addr} (x : Ext F H F' H') (h : H D' = none) : Ext F H (F'.add D') H' :=
  ⟨x.al, fun a ha => ⟨fun z => z.elim (x.ex a ha).mp fun e => absurd (by rw [e]; exact h) ha, fun z => .inl ((x.ex a ha).mpr z)⟩, x.len, x.lv, x.new, x.there, x.keep⟩
theorem Ext.rem {D' : Addr} (x : Ext F H F' H') (h : H D' = none) : Ext F H (F'.rem D') H' :=
  ⟨x.al, fun a ha => ⟨fun z => (x.ex a ha).mp z.1, fun z => ⟨(x.ex a ha).mpr z, fun e => ha (by rw [e]; exact h)⟩⟩, x.len, x.lv, x.new, x.there, x.keep⟩
mutual
/-- what holds no cell stands in any frame -/
theorem repF {G : Fr} {H : Hp} (go : ∀ a, H a ≠ none → G.un a → F.un a) : ∀ (d : D) (v : V), freeD d = true → Rep F H d v → Rep G H d v
  | .non, _, _, h => h
  | .bl _, _, _, h => h
  | .int _, _, _, h => h
  | .str _, _, _, h => h
  | .lst ds, v, p, ⟨a, vs, e, hu, ha, hs⟩ => ⟨a, vs, e, fun z => hu (go a (by rw [ha]; exact fun z => nomatch z) z), ha, repsF go ds vs (by rw [freeD] at p; exact p) hs⟩
  | .tup ds, v, p, ⟨a, vs, e, hu, ha, hs⟩ => ⟨a, vs, e, fun z => hu (go a (by rw [ha]; exact fun z => nomatch z) z), ha, repsF go ds vs (by rw [freeD] at p; exact p) hs⟩
  | .dic ds, v, p, ⟨a, vs, e, hu, ha, hs⟩ => ⟨a, vs, e, fun z => hu (go a (by rw [ha]; exact fun z => nomatch z) z), ha, repkF go ds vs (by rw [freeD] at p; exact p) hs⟩
  | .scr ns, v, _, ⟨a, o, e, hu, ha⟩ => ⟨a, o, e, fun z => hu (go a (by rw [ha]; exact fun z => nomatch z) z), ha⟩
  | .cel k, v, p, h => by simp [freeD] at p
  | .exv k d, v, p, h => by simp [freeD] at p
  | .fn _, _, _, h => h
theorem repsF {G : Fr} {H : Hp} (go : ∀ a, H a ≠ none → G.un a → F.un a) : ∀ (ds : List D) (vs : List V), freeDs ds = true → Reps F H ds vs → Reps G H ds vs
  | [], _, _, h => h
  | d :: ds, _, p, ⟨v, r, e, h1, h2⟩ => by
    rw [freeDs, Bool.and_eq_true] at p
    exact ⟨v, r, e, repF go d v p.1 h1, repsF go ds r p.2 h2⟩
theorem repkF {G : Fr} {H : Hp} (go : ∀ a, H a ≠ none → G.un a → F.un a) : ∀ (ds : List (Key × D)) (vs : List (Key × V)), freeDk ds = true → RepK F H ds vs → RepK G H ds vs
  | [], _, _, h => h
  | (k, d) :: ds, _, p, ⟨v, r, e, h1, h2⟩ => by
    rw [freeDk, Bool.and_eq_true] at p
    exact ⟨v, r, e, repF go d v p.1 h1, repkF go ds r p.2 h2⟩
end
/-- fewer places that are not to be leant on -/
theorem Rep.less {G : Fr} (ha : ∀ k, k < F.st.length → G.al k = F.al k) (hs : F.st.length ≤ G.st.length) (hu : ∀ a, G.un a → F.un a) : (∀ (d : D) (v : V), Rep F H d v → Rep G H d v) ∧ (∀ (ds : List D) (vs : List V), Reps F H ds vs → Reps G H ds vs) ∧ (∀ (ds : List (Key × D)) (vs : List (Key × V)), RepK F H ds vs → RepK G H ds vs) :=
  ⟨fun d v h => repL ha hs hu d v h, fun d v h => repsL ha hs hu d v h, fun d v h => repkL ha hs hu d v h⟩
theorem Sto.rem {D' : Addr} (s : Sto F H) : Sto (F.rem D') H := by
  have hu : ∀ a, (F.rem D').un a → F.un a := fun a h => h.elim (fun z => .inl z.1) .inr
  obtain ⟨_, r2, r3⟩ := Rep.less (F := F) (G := F.rem D') (H := H) (fun _ _ => rfl) (Nat.le_refl _) hu
  refine ⟨fun k c e => ?_, s.inj, fun k hk h => s.nex k hk h.1, fun a h => s.ext a h.1⟩
  have q := s.ce k c e
  cases c with
  | lst ds =>
    obtain ⟨vs, q1, r⟩ := q
    exact ⟨vs, q1, r2 _ _ r⟩
  | dic ds =>
    obtain ⟨vs, q1, r⟩ := q
    exact ⟨vs, q1, r3 _ _ r⟩
  | gone => trivial
/-- a new object, and its place taken out -/
theorem Sto.start {D' : Addr} (s : Sto F H) (o : HO) (h : H D' = none) : Sto (F.add D') (upd H D' o) := by
  have s1 := s.fresh o h
  have x := Ext.add (Ext.fresh F o h) h
  refine ⟨fun k c e => ?_, s.inj, fun k hk z => ?_, fun a z => ?_⟩
  · by_cases hg : c = .gone
    · subst hg; trivial
    · have hl : Live F.st k := ⟨c, e, hg⟩
      have hn : F.al k ≠ D' := fun z => s.there hl (by rw [z]; exact h)
      have q := s.ce k c e
      have eq : upd H D' o (F.al k) = H (F.al k) := upd_ne hn
      cases c with
      | lst ds =>
        obtain ⟨vs, q1, r⟩ := q
        exact ⟨vs, eq.trans q1, r.ext x⟩
      | dic ds =>
        obtain ⟨vs, q1, r⟩ := q
        exact ⟨vs, eq.trans q1, r.ext x⟩
      | gone => trivial
  · rcases z with z | z
    · exact s.nex k hk z
    · have z : F.al k = D' := z
      exact s.there hk (by rw [z]; exact h)
  · rcases z with z | z
    · exact s1.ext a z
    · rw [z, upd_same]; exact fun z => nomatch z
end
end MP
end
section
set_option maxRecDepth 100000
set_option maxHeartbeats 4000000
/-! MPOk: when a compact tree is that of a written expression. -/
namespace MP
open PySem L2

/-! ### parts of a written expression -/
def asName : Expr → Option Str
  | .Name x _ => some x
  | _ => none
theorem asName_eq {x : Expr} {n : Str} (h : asName x = some n) : ∃ p, x = .Name n p := by
  unfold asName at h
  split at h
  · cases h; exact ⟨_, rfl⟩
  · cases h
def asConst : Expr → Option Const
  | .Constant k _ _ => some k
  | _ => none
theorem asConst_eq {x : Expr} {n : Const} (h : asConst x = some n) : ∃ j p, x = .Constant n j p := by
  unfold asConst at h
  split at h
  · cases h; exact ⟨_, _, rfl⟩
  · cases h
def asBin : Expr → Option (Expr × Operator × Expr)
  | .BinOp a o b _ => some (a, o, b)
  | _ => none
theorem asBin_eq {x a b : Expr} {o : Operator} (h : asBin x = some (a, o, b)) : ∃ p, x = .BinOp a o b p := by
  unfold asBin at h
  split at h
  · cases h; exact ⟨_, rfl⟩
  · cases h
def asUn : Expr → Option (UnaryOp × Expr)
  | .UnaryOp o a _ => some (o, a)
  | _ => none
theorem asUn_eq {x a : Expr} {o : UnaryOp} (h : asUn x = some (o, a)) : ∃ p, x = .UnaryOp o a p := by
  unfold asUn at h
  split at h
  · cases h; exact ⟨_, rfl⟩
  · cases h
def asCmp1 : Expr → Option (Expr × CmpOp × Expr)
  | .Compare a [o] [b] _ => some (a, o, b)
  | _ => none
theorem asCmp1_eq {x a b : Expr} {o : CmpOp} (h : asCmp1 x = some (a, o, b)) : ∃ p, x = .Compare a [o] [b] p := by
  unfold asCmp1 at h
  split at h
  · cases h; exact ⟨_, rfl⟩
  · cases h
def asCmp2 : Expr → Option (Expr × CmpOp × Expr × CmpOp × Expr)
  | .Compare a [o, q] [b, c] _ => some (a, o, b, q, c)
  | _ => none
theorem asCmp2_eq {x a b c : Expr} {o q : CmpOp} (h : asCmp2 x = some (a, o, b, q, c)) : ∃ p, x = .Compare a [o, q] [b, c] p := by
  unfold asCmp2 at h
  split at h
  · cases h; exact ⟨_, rfl⟩
  · cases h
/-- and, or: the first operand; what is behind it -/
def asAnd : Expr → Option (Expr × Expr)
  | .BoolOp .And (a :: b :: c :: r) p => some (a, .BoolOp .And (b :: c :: r) p)
  | .BoolOp .And [a, b] _ => some (a, b)
  | _ => none
theorem asAnd_eq {x a b : Expr} (h : asAnd x = some (a, b)) : (∃ p, x = .BoolOp .And [a, b] p) ∨ ∃ b' c r p, x = .BoolOp .And (a :: b' :: c :: r) p ∧ b = .BoolOp .And (b' :: c :: r) p := by
  unfold asAnd at h
  split at h
  · cases h; exact .inr ⟨_, _, _, _, rfl, rfl⟩
  · cases h; exact .inl ⟨_, rfl⟩
  · cases h
def asOr : Expr → Option (Expr × Expr)
  | .BoolOp .Or (a :: b :: c :: r) p => some (a, .BoolOp .Or (b :: c :: r) p)
  | .BoolOp .Or [a, b] _ => some (a, b)
  | _ => none
theorem asOr_eq {x a b : Expr} (h : asOr x = some (a, b)) : (∃ p, x = .BoolOp .Or [a, b] p) ∨ ∃ b' c r p, x = .BoolOp .Or (a :: b' :: c :: r) p ∧ b = .BoolOp .Or (b' :: c :: r) p := by
  unfold asOr at h
  split at h
  · cases h; exact .inr ⟨_, _, _, _, rfl, rfl⟩
  · cases h; exact .inl ⟨_, rfl⟩
  · cases h
def asIf : Expr → Option (Expr × Expr × Expr)
  | .IfExp t a b _ => some (t, a, b)
  | _ => none
theorem asIf_eq {x t a b : Expr} (h : asIf x = some (t, a, b)) : ∃ p, x = .IfExp t a b p := by
  unfold asIf at h
  split at h
  · cases h; exact ⟨_, rfl⟩
  · cases h
def asList : Expr → Option (List Expr)
  | .List es _ => some es
  | _ => none
theorem asList_eq {x : Expr} {es : List Expr} (h : asList x = some es) : ∃ p, x = .List es p := by
  unfold asList at h
  split at h
  · cases h; exact ⟨_, rfl⟩
  · cases h
def asTup : Expr → Option (List Expr)
  | .Tuple es _ _ => some es
  | _ => none
theorem asTup_eq {x : Expr} {es : List Expr} (h : asTup x = some es) : ∃ k p, x = .Tuple es k p := by
  unfold asTup at h
  split at h
  · cases h; exact ⟨_, _, rfl⟩
  · cases h
def isDic0 : Expr → Bool
  | .Dict [] [] _ => true
  | _ => false
theorem isDic0_eq {x : Expr} (h : isDic0 x = true) : ∃ p, x = .Dict [] [] p := by
  unfold isDic0 at h
  split at h
  · exact ⟨_, rfl⟩
  · cases h
def isSlice : Expr → Bool
  | .Slice _ _ _ _ => true
  | _ => false
def asSub : Expr → Option (Expr × Expr)
  | .Subscript a b _ => some (a, b)
  | _ => none
theorem asSub_eq {x a b : Expr} (h : asSub x = some (a, b)) : ∃ p, x = .Subscript a b p := by
  unfold asSub at h
  split at h
  · cases h; exact ⟨_, rfl⟩
  · cases h
def asSlc : Expr → Option (Expr × Option Expr × Option Expr)
  | .Subscript a (.Slice lo hi none _) _ => some (a, lo, hi)
  | _ => none
theorem asSlc_eq {x a : Expr} {lo hi : Option Expr} (h : asSlc x = some (a, lo, hi)) : ∃ q p, x = .Subscript a (.Slice lo hi none q) p := by
  unfold asSlc at h
  split at h
  · cases h; exact ⟨_, _, rfl⟩
  · cases h
def asRev : Expr → Option Expr
  | .Subscript a (.Slice none none (some (.UnaryOp .USub (.Constant (.int 1) _ _) _)) _) _ => some a
  | _ => none
theorem asRev_eq {x a : Expr} (h : asRev x = some a) : ∃ k p1 p2 p3 p, x = .Subscript a (.Slice none none (some (.UnaryOp .USub (.Constant (.int 1) k p1) p2)) p3) p := by
  unfold asRev at h
  split at h
  · cases h; exact ⟨_, _, _, _, _, rfl⟩
  · cases h
def asRvb : Expr → Option (Expr × Nat)
  | .Subscript a (.Slice none (some (.Constant (.int (.ofNat n)) _ _)) (some (.UnaryOp .USub (.Constant (.int 1) _ _) _)) _) _ => some (a, n)
  | _ => none
theorem asRvb_eq {x a : Expr} {n : Nat} (h : asRvb x = some (a, n)) : ∃ j p0 k p1 p2 p3 p, x = .Subscript a (.Slice none (some (.Constant (.int (.ofNat n)) j p0)) (some (.UnaryOp .USub (.Constant (.int 1) k p1) p2)) p3) p := by
  unfold asRvb at h
  split at h
  · cases h; exact ⟨_, _, _, _, _, _, _, rfl⟩
  · cases h
def asLc : Expr → Option (Expr × Expr × Expr × List Expr × Scope)
  | .ListComp x [⟨tg, it, ifs, 0⟩] sc _ => some (x, tg, it, ifs, sc)
  | _ => none
theorem asLc_eq {y x tg it : Expr} {ifs : List Expr} {sc : Scope} (h : asLc y = some (x, tg, it, ifs, sc)) : ∃ p, y = .ListComp x [⟨tg, it, ifs, 0⟩] sc p := by
  unfold asLc at h
  split at h
  · cases h; exact ⟨_, rfl⟩
  · cases h
def asCall : Expr → Option (Str × List Expr)
  | .Call (.Name f _) es [] _ => some (f, es)
  | _ => none
theorem asCall_eq {x : Expr} {f : Str} {es : List Expr} (h : asCall x = some (f, es)) : ∃ p q, x = .Call (.Name f p) es [] q := by
  unfold asCall at h
  split at h
  · cases h; exact ⟨_, _, rfl⟩
  · cases h
def asMeth : Expr → Option (Expr × Str × List Expr)
  | .Call (.Attribute o m ap) es [] cp => if (ap.endLine == cp.line) = true then some (o, m, es) else none
  | _ => none
theorem asMeth_eq {x o : Expr} {m : Str} {es : List Expr} (h : asMeth x = some (o, m, es)) : ∃ ap cp, x = .Call (.Attribute o m ap) es [] cp ∧ (ap.endLine == cp.line) = true := by
  unfold asMeth at h
  split at h
  · split at h
    · cases h; exact ⟨_, _, rfl, by assumption⟩
    · cases h
  · cases h
def asCallK : Expr → Option (Str × List Expr × List Keyword)
  | .Call (.Name f _) es ks _ => some (f, es, ks)
  | _ => none
theorem asCallK_eq {x : Expr} {f : Str} {es : List Expr} {ks : List Keyword} (h : asCallK x = some (f, es, ks)) : ∃ p q, x = .Call (.Name f p) es ks q := by
  unfold asCallK at h
  split at h
  · cases h; exact ⟨_, _, rfl⟩
  · cases h
def asAttr : Expr → Option (Expr × Str)
  | .Attribute o a _ => some (o, a)
  | _ => none
theorem asAttr_eq {x o : Expr} {a : Str} (h : asAttr x = some (o, a)) : ∃ p, x = .Attribute o a p := by
  unfold asAttr at h
  split at h
  · cases h; exact ⟨_, rfl⟩
  · cases h
def isStar : Expr → Bool
  | .Starred _ _ => true
  | _ => false
def baseB : Expr → Bool
  | .Call (.Name _ _) [] [] _ => false
  | _ => true
theorem baseB_ok {o : Expr} {a : Str} {env : Env} {w : Sem Value} (h : baseB o = true) : attributeBase o a env w = w := by
  unfold attributeBase
  split
  · cases h
  · rfl
theorem star_cons {x : Expr} {xs : List Expr} {env : Env} (h : isStar x = false) : starEach (x :: xs) env = (false, eval x env) :: starEach xs env := by
  cases x <;> first | rfl | cases h
def noStars (xs : List Expr) : Bool := xs.all fun x => !isStar x
theorem stars {xs : List Expr} {env : Env} (h : noStars xs = true) : starEach xs env = xs.map fun x => (false, eval x env) := by
  induction xs with
  | nil => rfl
  | cons x r ih =>
    unfold noStars at h
    rw [List.all_cons, Bool.and_eq_true, Bool.not_eq_true'] at h
    rw [star_cons h.1, ih h.2]
    rfl
theorem stars_any {xs : List Expr} {env : Env} {pos : Pos} (h : noStars xs = true) : (backTo pos (starEach xs env)).any (·.1) = false := by
  rw [stars h]
  unfold backTo
  induction xs with
  | nil => rfl
  | cons x r ih =>
    unfold noStars at h
    rw [List.all_cons, Bool.and_eq_true] at h
    rw [List.map_cons, List.map_cons, List.any_cons, ih h.2]
    rfl
theorem stars_all {xs : List Expr} {env : Env} {pos : Pos} (h : noStars xs = true) : (backTo pos (starEach xs env)).all (fun x => !x.1) = true := by
  rw [stars h]
  unfold backTo
  induction xs with
  | nil => rfl
  | cons x r ih =>
    unfold noStars at h
    rw [List.all_cons, Bool.and_eq_true] at h
    rw [List.map_cons, List.map_cons, List.all_cons, ih h.2]
    rfl
def notSet : Expr → Bool
  | .Set _ _ _ => false
  | _ => true
theorem notSet_ok {e : Expr} {env : Env} (h : notSet e = true) : ∀ x, foldedSetIterable e env x = pure x := by
  intro x
  cases e <;> first | rfl | cases h
theorem any_one {x : Expr} {env : Env} {pos : Pos} (h : isStar x = false) : (backTo pos (starEach [x] env)).any (·.1) = false := by
  rw [star_cons h]
  rfl
end MP
end
section
set_option maxRecDepth 100000
set_option maxHeartbeats 4000000
/-! MPSnd1: what it is to come through; the static look; the context. -/
namespace MP
open PySem L2
variable [Glo]

/-! ### behind a step -/
def Aft {α β : Type} (Rel : Fr → Hp → α → β → Prop) (C : Nat → Addr) (We : Value → Option Addr → Hp → Prop) (F : Fr) (H : Hp) (r : R α) (Q : Fr → Hp → α → β → Prop) : Prop := match r with
  | .ok a st => ∀ F' H' b, F'.st = st → Ext F H F' H' → Sto F' H' → Rel F' H' a b → Q F' H' a b
  | .exc k d st => ∀ F' H' dx v, F'.st = st → Ext F H F' H' → Sto F' H' → H' dx = some (.xd [(("value" : Str), v)]) → ¬ F'.un dx → H dx = none → Rep F' H' d v → We (.ref (C k)) (some dx) H'
  | .bad => False
section
variable {α β α₂ β₂ : Type} {Rel : Fr → Hp → α → β → Prop} {Rel₂ : Fr → Hp → α₂ → β₂ → Prop} {C : Nat → Addr} {We : Value → Option Addr → Hp → Prop} {F F₁ : Fr} {H H₁ : Hp} {r : R α}
theorem Aft.mono {Q Q' : Fr → Hp → α → β → Prop} (h : Aft Rel C We F H r Q) (hq : ∀ F' H' a b, Ext F H F' H' → Sto F' H' → Rel F' H' a b → Q F' H' a b → Q' F' H' a b) : Aft Rel C We F H r Q' := by
  cases r with
  | ok a st => exact fun F' H' b e x s q => hq F' H' a b x s q (h F' H' b e x s q)
  | exc k d st => exact h
  | bad => exact h
theorem Aft.later {Q : Fr → Hp → α → β → Prop} (x : Ext F H F₁ H₁) (h : Aft Rel C We F H r Q) : Aft Rel C We F₁ H₁ r Q := by
  cases r with
  | ok a st => exact fun F' H' b e y s q => h F' H' b e (x.trans y) s q
  | exc k d st => exact fun F' H' dx v e y s hd hu hn hr => h F' H' dx v e (x.trans y) s hd hu (x.there dx hn) hr
  | bad => exact h
/-- a step, then another -/
theorem Aft.bind {Q : Fr → Hp → α₂ → β₂ → Prop} {f : α → Store → R α₂} (h : Aft Rel₂ C We F H (r.bind f) Q) :
    Aft Rel C We F H r (fun F₁ H₁ a _ => Aft Rel₂ C We F₁ H₁ (f a F₁.st) Q) := by
  cases r with
  | ok a st =>
    intro F' H' b e x s q
    subst e
    exact Aft.later x h
  | exc k d st => exact h
  | bad => exact h
/-- an answer without a step -/
theorem Aft.now {Q : Fr → Hp → α → β → Prop} {o : Option α} (h : Aft Rel C We F H (ofO o F.st) Q) (s : Sto F H) : ∃ a, o = some a ∧ ∀ b, Rel F H a b → Q F H a b := by
  cases o with
  | none => exact h.elim
  | some a => exact ⟨a, rfl, fun b q => h F H b rfl (Ext.refl F H) s q⟩
theorem Aft.ok_now {Q : Fr → Hp → α → β → Prop} {a : α} (h : Aft Rel C We F H (.ok a F.st) Q) (s : Sto F H) {b : β} (q : Rel F H a b) : Q F H a b := h F H b rfl (Ext.refl F H) s q
end

/-! ### an expression's reading -/
def Eqr {α : Type} : Fr → Hp → α → α → Prop := fun _ _ a b => a = b
def evT (C : Nat → Addr) (W : WX) (c : Cxt) (e : Ex) : TE := fun σ H Q => ∃ F ρ, Sto F H ∧ Slo F H ρ σ ∧ Aft Rep C (fun cl d H' => W cl d σ H') F H (ev c e ρ F.st) fun _ H' _ v => Q v H'
def evsT (C : Nat → Addr) (W : WX) (c : Cxt) (es : Exs) : TA := fun σ H Q => ∃ F ρ, Sto F H ∧ Slo F H ρ σ ∧ Aft Reps C (fun cl d H' => W cl d σ H') F H (evs c es ρ F.st) fun _ H' _ vs => Q vs H'
def evTT (C : Nat → Addr) (W : WX) (c : Cxt) (e : Ex) : TT := fun σ H Q => ∃ F ρ, Sto F H ∧ Slo F H ρ σ ∧ Aft Eqr C (fun cl d H' => W cl d σ H') F H ((ev c e ρ F.st).bind fun d st => ofO (tb d) st) fun _ H' _ b => Q b H'
/-- a promise -/
def spF (C : Nat → Addr) (c : Cxt) (f : Nat) : Sp := fun vs H Q E => ∃ F ds, Sto F H ∧ Reps F H ds vs ∧ Aft Rep C (fun cl d H' => E cl d H') F H (c.cal f ds F.st) fun _ H' _ v => Q v H'

/-! ### the static look -/
structure SE where
  N : List Str
  sc : Scope
  fn : Str → Bool
structure Tab where
  fns : List Str
  con : List Str
  exc : List Str
  kws : List (Nat × Nat × List Str × List Nat)
def visB (sc : Scope) (x : Str) : Bool := match sc.names.lookup x with
  | some .local => true
  | some .cell => true
  | some .free => true
  | _ => false
theorem visB_ok {sc : Scope} {x : Str} (h : visB sc x = true) : Vis sc x := by
  unfold visB at h
  split at h
  · exact .inl (by assumption)
  · exact .inr (.inl (by assumption))
  · exact .inr (.inr (by assumption))
  · cases h
def gloB (sc : Scope) (x : Str) : Bool := match sc.names.lookup x with
  | some .globalImplicit => true
  | _ => false
theorem gloB_ok {X : Cx} {x : Str} (h : gloB X.env.scope x = true) : Gl X x := by
  unfold gloB at h
  split at h
  · rename_i e
    exact e
  · cases h
def okNm (x : Str) : Bool := !(x == ("__debug__" : Str)) && (!(x == ("__classdict__" : Str)) && !decide (x = ("__name__" : Str)))
theorem okNm_ok {x : Str} (h : okNm x = true) : (x == ("__debug__" : Str)) = false ∧ (x == ("__classdict__" : Str)) = false ∧ x ≠ "__name__" := by
  unfold okNm at h
  simp only [Bool.and_eq_true, Bool.not_eq_true', decide_eq_false_iff_not] at h
  exact ⟨h.1, h.2.1, h.2.2⟩
def okK : D → Const → Bool
  | .non, .none => true
  | .bl a, .bool b => a == b
  | .int a, .int b => decide (a = b)
  | .str a, .str b => decide (a = b)
  | _, _ => false
def okBo : Bo → Operator → Bool
  | .add, .Add => true
  | .sub, .Sub => true
  | .mul, .Mult => true
  | .fdv, .FloorDiv => true
  | .mod, .Mod => true
  | .pow, .Pow => true
  | _, _ => false
def okCo : Co → CmpOp → Bool
  | .lt, .Lt => true
  | .le, .LtE => true
  | .gt, .Gt => true
  | .ge, .GtE => true
  | .eq, .Eq => true
  | .ne, .NotEq => true
  | .isin, .In => true
  | .nin, .NotIn => true
  | .is_, .Is => true
  | .isn, .IsNot => true
  | _, _ => false
def isE : Ty → Bool
  | .exc _ => true
  | _ => false
def tyName : Ty → Str
  | .int => "int"
  | .bool => "bool"
  | .str => "str"
  | .list => "list"
  | .tuple => "tuple"
  | .dict => "dict"
  | .exc _ => ""
def blName : Bf → Str
  | .len => "len"
  | .any => "any"
  | .all => "all"
  | .sum => "sum"
  | .sum2 => "sum"
  | .sorted => "sorted"
  | .int => "int"
  | .str => "str"
  | .list => "list"
  | .tuple => "tuple"
  | .max2 => "max"
  | .min2 => "min"
  | .max => "max"
  | .abs => "abs"
  | .isi _ => "isinstance"
  | .isis _ => "isinstance"
  | .repr => "repr"
  | .lrng => "list"
  | .ord => "ord"
def mtName : Mt → Str
  | .append => "append"
  | .pop => "pop"
  | .popAt => "pop"
  | .index => "index"
  | .count => "count"
  | .join => "join"
  | .split => "split"
  | .bits => "bit_length"
def bnames : List Str := ["len", "any", "all", "sum", "sorted", "int", "bool", "dict", "str", "list", "tuple", "max", "min", "abs", "isinstance", "repr", "ord", "range", "enumerate", "zip"]
def ownS (N : List Str) (own : List Nat) : List (Str × Nat) := own.filterMap fun i => (N[i]?).map fun x => (x, i)
def SE.blk (se : SE) (sc : Scope) : SE := { se with sc := relS sc se.sc, fn := fun x => sc.names.lookup x == some .cell }
def locB (se : SE) (x : Str) : Bool := match se.sc.names.lookup x with
  | some .local => true
  | some .cell => se.fn x
  | _ => false
def okNames (se : SE) : List Nat → List Expr → Bool
  | [], [] => true
  | i :: is, x :: xs => (match asName x with
    | some n => decide (se.N[i]? = some n) && locB se n
    | none => false) && okNames se is xs
  | _, _ => false
def okG (se : SE) (tg : List Nat) (tp : Bool) (x : Expr) : Bool := if tp then (match asTup x with
  | some xs => okNames se tg xs
  | none => false) else okNames se tg [x] && decide (tg.length = 1)
mutual
def okE (T : Tab) : SE → Ex → Expr → Bool
  | se, .nm i, x => match asName x with
    | some n => decide (se.N[i]? = some n) && (visB se.sc n && okNm n)
    | none => false
  | _, .kn d, x => match asConst x with
    | some k => okK d k
    | none => false
  | se, .con g, x => match asName x with
    | some n => decide (T.con[g]? = some n) && (gloB se.sc n && okNm n)
    | none => false
  | se, .bin op a b, x => match asBin x with
    | some (a', o, b') => okBo op o && (okE T se a a' && okE T se b b')
    | none => false
  | se, .neg a, x => match asUn x with
    | some (.USub, a') => okE T se a a'
    | _ => false
  | se, .cmp op a b, x => match asCmp1 x with
    | some (a', o, b') => okCo op o && (!behindInMarks o b' && (okE T se a a' && okE T se b b'))
    | none => false
  | se, .chn o p a b d, x => match asCmp2 x with
    | some (a', o', b', p', d') => okCo o o' && (okCo p p' && (!lastMarks [o', p'] [b', d'] && (okE T se a a' && (okE T se b b' && okE T se d d'))))
    | none => false
  | se, .and a b, x => match asAnd x with
    | some (a', b') => okE T se a a' && okE T se b b'
    | none => false
  | se, .or a b, x => match asOr x with
    | some (a', b') => okE T se a a' && okE T se b b'
    | none => false
  | se, .not a, x => match asUn x with
    | some (.Not, a') => okE T se a a'
    | _ => false
  | se, .ife t a b, x => match asIf x with
    | some (t', a', b') => okE T se t t' && (okE T se a a' && okE T se b b')
    | none => false
  | se, .lst es, x => match asList x with
    | some xs => okEs T se es xs
    | none => false
  | se, .tup es, x => match asTup x with
    | some xs => okEs T se es xs
    | none => false
  | _, .dic0, x => isDic0 x
  | se, .sub a b, x => match asSub x with
    | some (a', b') => !isSlice b' && (okE T se a a' && okE T se b b')
    | none => false
  | se, .slc a lo hi, x => match asSlc x with
    | some (a', l, h) => okE T se a a' && (okO T se lo l && okO T se hi h)
    | none => false
  | se, .rev a, x => match asRev x with
    | some a' => okE T se a a'
    | none => false
  | se, .rvb a n, x => match asRvb x with
    | some (a', m) => decide (n = m) && okE T se a a'
    | none => false
  | se, .lc y tg tp s i own, x => match asLc x with
    | some (y', tg', it, ifs, sc) => notSet it && (okS T se tg' s it && (okT T (se.blk sc) i ifs && (okE T (se.blk sc) y y' && (okG (se.blk sc) tg tp tg' && (blkC se.N se.sc sc (ownS se.N own) && (decide ((ownS se.N own).map (·.2) = own) && decide (tg.all own.contains = true)))))))
    | none => false
  | se, .cal f es, x => match asCall x with
    | some (n, xs) => decide (T.fns[f]? = some n) && (gloB se.sc n && (okNm n && (okEs T se es xs && (noStars xs && !xs.isEmpty))))
    | none => false
  | se, .pur f es, x => match asCall x with
    | some (n, xs) => decide (T.fns[f]? = some n) && (gloB se.sc n && (okNm n && (okEs T se es xs && (noStars xs && !xs.isEmpty))))
    | none => false
  | se, .fn f, x => match asName x with
    | some n => decide (T.fns[f]? = some n) && (gloB se.sc n && okNm n)
    | none => false
  | se, .cav i es, x => match asCall x with
    | some (n, xs) => decide (se.N[i]? = some n) && (visB se.sc n && (okNm n && (okEs T se es xs && (noStars xs && !xs.isEmpty))))
    | none => false
  | se, .cak f es ks ix, x => match asCallK x with
    | some (n, xs, kws) => decide (T.fns[f]? = some n) && (gloB se.sc n && (okNm n && (okEs T se es xs && (okEs T se ks (kws.map (·.value)) && (noStars xs && (kws.all (fun k => k.arg.isSome) && decide ((f, xs.length, kws.filterMap (·.arg), ix) ∈ T.kws)))))))
    | none => false
  | se, .val e, x => match asAttr x with
    | some (o, a) => decide (a = ("value" : Str)) && (okE T se e o && baseB o)
    | none => false
  | se, .blt b es, x => match asCall x with
    | some (n, xs) => decide (n = blName b) && (gloB se.sc n && (match b with
      | .isi t => (match xs with
        | [y, z] => (match asName z with
          | some tn => !isStar y && (okEs T se es [y] && (gloB se.sc tn && (okNm tn && (match t with
            | .exc k => decide (T.exc[k]? = some tn)
            | _ => decide (tn = tyName t)))))
          | none => false)
        | _ => false)
      | .isis ts => (match xs with
        | [y, z] => (match asTup z with
          | some zs => !isStar y && (!ts.isEmpty && (decide (ts.length < 9) && (okEs T se es [y] && (decide (zs.map asName = ts.map fun t => some (tyName t)) && (ts.all fun t => !isE t && gloB se.sc (tyName t))))))
          | none => false)
        | _ => false)
      | .lrng => (match xs with
        | [y] => (match asCall y with
          | some (r, [a]) => decide (r = ("range" : Str)) && (gloB se.sc r && (okEs T se es [a] && !isStar a))
          | _ => false)
        | _ => false)
      | _ => okEs T se es xs && (noStars xs && !xs.isEmpty)))
    | none => false
  | se, .met m a es, x => match asMeth x with
    | some (o, n, xs) => decide (n = mtName m) && (okE T se a o && (okEs T se es xs && (noStars xs && (baseB o && decide (xs.length < 9)))))
    | none => false
  | se, .mk e, x => (match e with
    | .lst _ => true
    | .lc _ _ _ _ _ _ => true
    | .bin .add _ _ => true
    | .blt .list (.cons _ .nil) => true
    | _ => false) && okE T se e x
  | se, .frz e, x => (match e with
    | .nm _ => true
    | .cal _ _ => true
    | .cav _ _ => true
    | .cak _ _ _ _ => true
    | _ => false) && okE T se e x
def okEs (T : Tab) : SE → Exs → List Expr → Bool
  | _, .nil, xs => xs.isEmpty
  | se, .cons e es, xs => match xs with
    | x :: r => okE T se e x && (!isStar x && okEs T se es r)
    | [] => false
def okO (T : Tab) : SE → Ox → Option Expr → Bool
  | _, .non, x => x.isNone
  | se, .som e, x => match x with
    | some y => okE T se e y
    | none => false
def okT (T : Tab) : SE → Ox → List Expr → Bool
  | _, .non, x => x.isEmpty
  | se, .som e, x => match x with
    | [y] => okE T se e y
    | _ => false
def okS (T : Tab) : SE → Expr → Sr → Expr → Bool
  | se, _, .lis e, x => okE T se e x
  | se, _, .tpl e, x => okE T se e x
  | se, _, .txt e, x => okE T se e x
  | se, _, .rg1 e, x => match asCall x with
    | some (n, [a]) => decide (n = ("range" : Str)) && (gloB se.sc n && (!isStar a && okE T se e a))
    | _ => false
  | se, _, .rg2 e f, x => match asCall x with
    | some (n, [a, b]) => decide (n = ("range" : Str)) && (gloB se.sc n && (!isStar a && (!isStar b && (okE T se e a && okE T se f b))))
    | _ => false
  | se, tg, .enu e, x => match asCall x with
    | some (n, [a]) => decide (n = ("enumerate" : Str)) && (gloB se.sc n && (!isStar a && (okE T se e a && (asTup tg).isSome)))
    | _ => false
  | se, tg, .zip s e f, x => match asCall x with
    | some (n, [a, b]) => !s && (decide (n = ("zip" : Str)) && (gloB se.sc n && (!isStar a && (!isStar b && (okE T se e a && (okE T se f b && (asTup tg).isSome))))))
    | _ => false
end
end MP
end
section
set_option maxRecDepth 100000
set_option maxHeartbeats 4000000
/-! MPSnd2: the context; operators. -/
namespace MP
open PySem L2
variable [Glo]

theorem imp_e {X : Cx} {x : Expr} {t t' : TE} (h : PE X x t) (q : ∀ σ H Q, t' σ H Q → t σ H Q) : PE X x t' := ⟨fun pins s σ H Q I w => h.run pins s σ H Q I (q σ H Q w)⟩
theorem imp_t {X : Cx} {x : Expr} {t t' : TT} (h : PT X x t) (q : ∀ σ H Q, t' σ H Q → t σ H Q) : PT X x t' := ⟨fun pins s σ H Q I w => h.run pins s σ H Q I (q σ H Q w)⟩
theorem imp_a {X : Cx} {x : List Expr} {t t' : TA} (h : PA X x t) (q : ∀ σ H Q, t' σ H Q → t σ H Q) : PA X x t' := ⟨fun pos pins s σ H Q I w => h.run pos pins s σ H Q I (q σ H Q w)⟩
theorem imp_w {X : Cx} {x : Expr} {t t' : TT} (h : PW X x t) (q : ∀ σ H Q, t' σ H Q → t σ H Q) : PW X x t' := ⟨fun wh pins s σ H Q I w => h.run wh pins s σ H Q I (q σ H Q w)⟩

section
variable {C : Nat → Addr} {W : WX} {c : Cxt}

/-- two steps in a row, read by the values -/
theorem two {a b : Ex} {F : Fr} {ρ : Sl} {σ : St} {H : Hp} {f : D → D → Store → R D} {Q : VK} (hs : Sto F H) (hl : Slo F H ρ σ)
    (h : Aft Rep C (fun cl d H' => W cl d σ H') F H ((ev c a ρ F.st).bind fun x st => (ev c b ρ st).bind fun y st => f x y st) fun _ H' _ v => Q v H')
    {R2 : V → V → Hp → Prop} (k : ∀ F2 H2 x y vx vy, Sto F2 H2 → Rep F2 H2 x vx → Rep F2 H2 y vy → Ext F H F2 H2 → Aft Rep C (fun cl d H' => W cl d σ H') F2 H2 (f x y F2.st) (fun _ H' _ v => Q v H') → R2 vx vy H2) :
    evT C W c a σ H fun vx H1 => evT C W c b σ H1 fun vy H2 => R2 vx vy H2 := by
  refine ⟨F, ρ, hs, hl, Aft.mono (Aft.bind h) fun F1 H1 x vx e1 s1 r1 h1 => ?_⟩
  refine ⟨F1, ρ, s1, hl.ext e1, Aft.mono (Aft.bind h1) fun F2 H2 y vy e2 s2 r2 h2 => ?_⟩
  exact k F2 H2 x y vx vy s2 (r1.ext e2) r2 (e1.trans e2) h2

/-! ### operators on values -/
theorem rep_int {F : Fr} {H : Hp} {i : Int} {v : V} (h : Rep F H (.int i) v) : v = .int i := h
/-- where a list is read -/
theorem items_rep {F : Fr} {H : Hp} {d : D} {v : V} {ds : List D} (s : Sto F H) (h : Rep F H d v) (e : items F.st d = some ds) : ∃ a vs, v = .ref a ∧ H a = some (.lst vs) ∧ Reps F H ds vs := by
  cases d with
  | lst es =>
    cases e
    obtain ⟨a, vs, q1, _, q2, q3⟩ := h
    exact ⟨a, vs, q1, q2, q3⟩
  | cel k =>
    obtain ⟨q1, hk⟩ := h
    have e : (match F.st[k]? with | some (.lst ds) => some ds | _ => none) = some ds := e
    split at e
    · rename_i es q
      cases e
      obtain ⟨vs, q2, q3⟩ := s.ce k _ q
      exact ⟨_, vs, q1, q2, q3⟩
    · cases e
  | _ => cases e
theorem line_eq : line = sizeLine := by rw [sizeLine_eq]; rfl
/-- a new list that may be leant on -/
theorem Rep.newL {F : Fr} {H : Hp} {p : Addr} {ds : List D} {vs : List V} (s : Sto F H) (hp : H p = none) (r : Reps F H ds vs) : Rep F (upd H p (.lst vs)) (.lst ds) (.ref p) :=
  ⟨p, vs, rfl, s.nun hp, upd_same, r.ext (Ext.fresh F _ hp)⟩
theorem Rep.newT {F : Fr} {H : Hp} {p : Addr} {ds : List D} {vs : List V} (s : Sto F H) (hp : H p = none) (r : Reps F H ds vs) : Rep F (upd H p (.tup vs)) (.tup ds) (.ref p) :=
  ⟨p, vs, rfl, s.nun hp, upd_same, r.ext (Ext.fresh F _ hp)⟩
theorem Reps.rep {F : Fr} {H : Hp} {ds : List D} {vs : List V} (r : Reps F H ds vs) : ∀ n, Reps F H (List.replicate n ds).flatten (List.replicate n vs).flatten
  | 0 => rfl
  | n + 1 => by
    rw [List.replicate_succ, List.replicate_succ, List.flatten_cons, List.flatten_cons]
    exact r.append (r.rep n)
/-- what is wanted of an answer that is there at once -/
theorem Aft.val {We : Value → Option Addr → Hp → Prop} {F : Fr} {H : Hp} {d : D} {v : V} {Q : VK} (h : Aft Rep C We F H (.ok d F.st) fun _ H' _ v => Q v H') (s : Sto F H) (r : Rep F H d v) : Q v H := h F H v rfl (Ext.refl F H) s r
/-- .. of a new object -/
theorem Aft.fresh {We : Value → Option Addr → Hp → Prop} {F : Fr} {H : Hp} {d : D} {v : V} {Q : VK} {p : Addr} {o : HO} (h : Aft Rep C We F H (.ok d F.st) fun _ H' _ v => Q v H') (s : Sto F H) (hp : H p = none) (r : Rep F (upd H p o) d v) : Q v (upd H p o) :=
  h F _ v rfl (Ext.fresh F o hp) (s.fresh o hp) r

theorem okMul_ok {i j : Int} (h : okMul i j = true) : CMul i j := by
  unfold okMul at h
  simp only [Bool.or_eq_true, Bool.and_eq_true, decide_eq_true_eq] at h
  exact h
/-- ints -/
def rBinI (op : Bo) : R2 := fun x y H Q => ∃ i j d, x = .int i ∧ y = .int j ∧ binI op i j = some d ∧ ∀ v, (∀ F H, Rep F H d v) → Q v H
theorem op_binI {X : Cx} {op : Bo} {o : Operator} (h : okBo op o = true) : OpR X (binaryOp o) (rBinI op) := by
  intro pins s σ H x y v u Q I rx ry ⟨i, j, d, ex, ey, e, q⟩
  cases op <;> cases o <;> first | cases h | skip
  · cases e
    exact op_add pins s σ H x y v u Q I rx ry ⟨i, j, ex, ey, q _ fun _ _ => rfl⟩
  · cases e
    exact op_sub pins s σ H x y v u Q I rx ry ⟨i, j, ex, ey, q _ fun _ _ => rfl⟩
  · unfold binI at e
    simp only at e
    split at e
    · cases e
      exact op_mul pins s σ H x y v u Q I rx ry ⟨i, j, ex, ey, okMul_ok (by assumption), q _ fun _ _ => rfl⟩
    · cases e
  · unfold binI at e
    simp only at e
    split at e
    · rename_i hc
      cases e
      simp only [Bool.and_eq_true, decide_eq_true_eq] at hc
      exact op_fdiv pins s σ H x y v u Q I rx ry ⟨i, j, ex, ey, hc, q _ fun _ _ => rfl⟩
    · cases e
  · unfold binI at e
    simp only at e
    split at e
    · cases e
      exact op_mod pins s σ H x y v u Q I rx ry ⟨i, j, ex, ey, by assumption, q _ fun _ _ => rfl⟩
    · cases e
  · unfold binI at e
    simp only at e
    split at e
    · rename_i hc
      cases e
      simp only [Bool.and_eq_true, decide_eq_true_eq] at hc
      exact op_pow pins s σ H x y v u Q I rx ry ⟨i, j, ex, ey, ⟨hc.1.1, hc.1.2, hc.2⟩, q _ fun _ _ => rfl⟩
    · cases e
end
end MP
end
section
set_option maxRecDepth 100000
set_option maxHeartbeats 4000000
/-! MPSnd3: binary operators, comparisons, subscripts. -/
namespace MP
open PySem L2
variable [Glo]
section
variable {C : Nat → Addr} {W : WX} {c : Cxt}

/-- two values that are read, an answer that may be a new object -/
def rV2 (f : Store → D → D → Option D) : R2 := fun x y H Q => ∃ F d e z, Sto F H ∧ Rep F H d x ∧ Rep F H e y ∧ f F.st d e = some z ∧ ∀ H' v, Ext F H F H' → Sto F H' → Rep F H' z v → Q v H'

theorem mulOk_of {x : Str} {n : Int} (h1 : 2 ≤ n) (h2 : n ≤ 1000000) (h3 : 0 < x.length) (h4 : x.length * n.toNat ≤ line) : MulOk x n := by
  have hp : x.length ≤ x.length * n.toNat := Nat.le_mul_of_pos_right _ (by omega)
  have h4 : x.length * n.toNat ≤ 16777216 := h4
  refine ⟨?_, fun _ _ h => ?_, fun _ _ => PyProof.Rows.short24 h4⟩
  · rw [Bool.or_eq_false_iff]
    exact ⟨decide_eq_false (by omega), decide_eq_false (by omega)⟩
  · have h5 : (9000000000 : Int) ≤ (2 ^ 63 - 1) / n := by
      apply (Int.le_ediv_iff_mul_le (by omega)).mpr
      omega
    omega
theorem op_bin {X : Cx} {op : Bo} {o : Operator} (h : okBo op o = true) : OpR X (binaryOp o) (rV2 fun st a b => binD st op a b) := by
  intro pins s σ H x y v u Q I rx ry ⟨F, d, e, z, hs, rd, re, hz, q⟩
  replace hz : binD F.st op d e = some z := hz
  have q0 : ∀ v, Rep F H z v → Q v H := fun v r => q H v (Ext.refl F H) hs r
  unfold binD at hz
  split at hz
  · -- ints
    rename_i i j
    refine op_binI h pins s σ H x y v u Q I rx ry ⟨i, j, z, rd, re, hz, fun v r => q0 v (r F H)⟩
  · -- texts
    rename_i a b
    split at hz
    · split at hz
      · rename_i hl
        cases hz
        cases o <;> first | cases h | skip
        rw [line_eq] at hl
        exact op_add_str pins s σ H x y v u Q I rx ry ⟨a, b, rd, re, hl, q0 _ rfl⟩
      · cases hz
    · cases hz
  · -- a text, so many times
    rename_i x n
    split at hz
    · split at hz
      · rename_i hl
        cases hz
        cases o <;> first | cases h | skip
        simp only [Bool.and_eq_true, decide_eq_true_eq] at hl
        obtain ⟨⟨⟨h1, h2⟩, h3⟩, h4⟩ := hl
        obtain ⟨t, rfl⟩ := (show RelV (.str x) v from by rw [show _ = V.str x from rd] at rx; exact rx)
        obtain ⟨u', rfl⟩ := (show RelV (.int n) u from by rw [show _ = V.int n from re] at ry; exact ry)
        exact PySem.SB.mul (mulOk_of h1 h2 h3 h4) fun t' k => ⟨.str _, H, I.tok k, ⟨t', rfl⟩, q0 _ rfl⟩
      · cases hz
    · cases hz
  · -- tuples
    rename_i xs ys
    obtain ⟨a, vs, ea, ua, ha, ra⟩ := rd
    obtain ⟨b, us, eb, ub, hb, rb⟩ := re
    split at hz
    · split at hz
      · rename_i hl
        cases hz
        cases o <;> first | cases h | skip
        simp only [Bool.and_eq_true, decide_eq_true_eq, Bool.not_eq_true', List.isEmpty_eq_false_iff] at hl
        obtain ⟨⟨h1, h2⟩, h3⟩ := hl
        rw [line_eq, ra.length, rb.length] at h1
        have n1 : vs ≠ [] := fun z => h2 (List.eq_nil_of_length_eq_zero (by rw [ra.length, z]; rfl))
        have n2 : us ≠ [] := fun z => h3 (List.eq_nil_of_length_eq_zero (by rw [rb.length, z]; rfl))
        refine op_catT pins s σ H x y v u Q I rx ry ⟨a, b, vs, us, ea, eb, SqT.of ha, SqT.of hb, n1, h1, fun z => absurd z n2, fun _ p hp => ?_⟩
        exact q _ _ (Ext.fresh F _ hp) (hs.fresh _ hp) (Rep.newT hs hp (ra.append rb))
      · cases hz
    · cases hz
  · -- a list, so many times
    rename_i k _ _
    split at hz
    · rename_i xs hi
      split at hz
      · rename_i hl
        cases hz
        cases o <;> first | cases h | skip
        obtain ⟨a, vs, ea, ha, ra⟩ := items_rep hs rd hi
        simp only [Bool.and_eq_true, decide_eq_true_eq] at hl
        obtain ⟨⟨h1, h2⟩, h3⟩ := hl
        rw [line_eq, ra.length] at h3
        refine op_rep pins s σ H x y v u Q I rx ry ⟨a, k, vs, ea, re, ha, h1, h2, h3, fun p hp => ?_⟩
        exact q _ _ (Ext.fresh F _ hp) (hs.fresh _ hp) (Rep.newL hs hp (ra.rep _))
      · cases hz
    · cases hz
  · -- two lists
    split at hz
    · rename_i xs ys hi hj
      split at hz
      · rename_i hl
        cases hz
        cases o <;> first | cases h | skip
        obtain ⟨a, vs, ea, ha, ra⟩ := items_rep hs rd hi
        obtain ⟨b, us, eb, hb, rb⟩ := items_rep hs re hj
        rw [line_eq, ra.length, rb.length] at hl
        refine op_cat pins s σ H x y v u Q I rx ry ⟨a, b, vs, us, ea, eb, ha, hb, hl, fun p hp => ?_⟩
        exact q _ _ (Ext.fresh F _ hp) (hs.fresh _ hp) (Rep.newL hs hp (ra.append rb))
      · cases hz
    · cases hz

/-- an operation on values, of two evaluated ones -/
theorem evT_op {a b e : Ex} {f : Store → D → D → Option D} (he : ∀ ρ st, ev c e ρ st = (ev c a ρ st).bind fun x st => (ev c b ρ st).bind fun y st => ofO (f st x y) st) {σ : St} {H : Hp} {Q : VK} (h : evT C W c e σ H Q) :
    tOp (rV2 f) (evT C W c a) (evT C W c b) σ H Q := by
  obtain ⟨F, ρ, hs, hl, h⟩ := h
  rw [he] at h
  refine two hs hl h fun F2 H2 x y vx vy s2 r1 r2 e2 h2 => ?_
  cases hz : f F2.st x y with
  | none =>
    rw [hz] at h2
    exact h2.elim
  | some z =>
    rw [hz] at h2
    exact ⟨F2, x, y, z, s2, r1, r2, hz, fun H' v xe sn r => h2 F2 H' v rfl xe sn r⟩
theorem pe_bin {X : Cx} {a b : Ex} {x y : Expr} {op : Bo} {o : Operator} {p : Pos} (h : okBo op o = true) (ha : PE X x (evT C W c a)) (hb : PE X y (evT C W c b)) : PE X (.BinOp x o y p) (evT C W c (.bin op a b)) :=
  imp_e (pe_op (op_bin h) ha hb) fun _ _ _ w => evT_op (fun _ _ => by rw [ev]) w

/-! ### comparisons -/
def rV2b (f : Store → D → D → Option Bool) : R2 := fun x y H Q => ∃ F d e k, Sto F H ∧ Rep F H d x ∧ Rep F H e y ∧ f F.st d e = some k ∧ Q (.bl k) H

mutual
theorem Rep.dp {K : PySem.W.Frag} {F : Fr} {H : Hp} : ∀ (d : D) (v : V), pureD d = true → Rep F H d v → Dp K H v (toP d)
  | .non, v, _, r => by rw [show v = V.non from r]; rw [toP]; exact Dp.non
  | .bl b, v, _, r => by rw [show v = V.bl b from r]; rw [toP]; exact Dp.bl b
  | .int i, v, _, r => by rw [show v = V.int i from r]; rw [toP]; exact Dp.int i
  | .str i, v, _, r => by rw [show v = V.str i from r]; rw [toP]; exact Dp.str i
  | .lst ds, v, hp, ⟨a, vs, e, _, ha, rs⟩ => by
    rw [pureD] at hp
    rw [e, toP]
    exact Dp.lst (SqL.of ha) (Reps.dp ds vs hp rs)
  | .tup ds, v, hp, ⟨a, vs, e, _, ha, rs⟩ => by
    rw [pureD] at hp
    rw [e, toP]
    exact Dp.tup (SqT.of ha) (Reps.dp ds vs hp rs)
  | .dic _, _, hp, _ => by simp [pureD] at hp
  | .scr _, _, hp, _ => by simp [pureD] at hp
  | .cel _, _, hp, _ => by simp [pureD] at hp
  | .exv _ _, _, hp, _ => by simp [pureD] at hp
  | .fn _, _, hp, _ => by simp [pureD] at hp
theorem Reps.dp {K : PySem.W.Frag} {F : Fr} {H : Hp} : ∀ (ds : List D) (vs : List V), pureDs ds = true → Reps F H ds vs → DpAll K H vs (toPs ds)
  | [], vs, _, r => by
    rw [show vs = [] from r, toPs]
    exact DpAll.nil
  | d :: ds, _, hp, ⟨v, r, e, h1, h2⟩ => by
    rw [pureDs, Bool.and_eq_true] at hp
    rw [e, toPs]
    exact DpAll.cons (Rep.dp d v hp.1 h1) (Reps.dp ds r hp.2 h2)
end
theorem snap_dp {K : PySem.W.Frag} {F : Fr} {H : Hp} {d z : D} {v : V} (s : Sto F H) (r : Rep F H d v) (h : snap F.st d = some z) : Dp K H v (toP z) ∧ pureD z = true := by
  unfold snap at h
  split at h
  · rename_i k
    split at h
    · rename_i ds q
      split at h
      · rename_i hp
        cases h
        obtain ⟨e, _⟩ := r
        obtain ⟨vs, ha, rs⟩ := s.ce k _ q
        rw [e, toP]
        exact ⟨Dp.lst (SqL.of ha) (rs.dp _ _ hp), by rw [pureD]; exact hp⟩
      · cases h
    · cases h
  · split at h
    · rename_i hp
      cases h
      exact ⟨r.dp _ _ hp, hp⟩
    · cases h
theorem room64 {X : Cx} {k : Nat} (hr : Room k X.A) : X.A.units + 65 < cLine := by have := hr.un; omega

theorem op_eqF {X : Cx} {k : Nat} (hr : Room k X.A) : OpR X (compareOp .Eq) (rV2b eqD) := by
  intro pins s σ H x y v u Q I rx ry ⟨F, d, e, z, hs, rd, re, hz, q⟩
  unfold eqD at hz
  split at hz
  · rename_i a b ha hb
    split at hz
    · rename_i hsh
      cases hz
      simp only [Bool.and_eq_true] at hsh
      exact op_eqD (by have := room64 hr; omega) pins s σ H x y v u Q I rx ry ⟨_, _, (snap_dp hs rd ha).1, (snap_dp hs re hb).1, hsh.1, hsh.2, q⟩
    · cases hz
  · cases hz
theorem op_neF {X : Cx} {k : Nat} (hr : Room k X.A) : OpR X (compareOp .NotEq) (rV2b fun st a b => (eqD st a b).map (!·)) := by
  intro pins s σ H x y v u Q I rx ry ⟨F, d, e, z, hs, rd, re, hz, q⟩
  replace hz : (eqD F.st d e).map (!·) = some z := hz
  cases hq : eqD F.st d e with
  | none => rw [hq] at hz; cases hz
  | some r =>
    rw [hq] at hz
    cases hz
    unfold eqD at hq
    split at hq
    · rename_i a b ha hb
      split at hq
      · rename_i hsh
        cases hq
        simp only [Bool.and_eq_true] at hsh
        exact op_neD (by have := room64 hr; omega) pins s σ H x y v u Q I rx ry ⟨_, _, (snap_dp hs rd ha).1, (snap_dp hs re hb).1, hsh.1, hsh.2, q⟩
      · cases hq
    · cases hq
end
end MP
end
section
set_option maxRecDepth 100000
set_option maxHeartbeats 4000000
/-! MPSnd4: order, in, is; all comparisons. -/
namespace MP
open PySem L2 PyProof.Rows
variable [Glo]
theorem firstLt_map {e r : Nat → Bool} {fin : Bool} (g : Nat → Nat) : ∀ l : List Nat, SeqAt.firstLt e r fin (l.map g) = SeqAt.firstLt (fun j => e (g j)) (fun j => r (g j)) fin l
  | [] => rfl
  | j :: t => by
    show (if e (g j) = true then SeqAt.firstLt e r fin (t.map g) else r (g j)) = if e (g j) = true then SeqAt.firstLt (fun j => e (g j)) (fun j => r (g j)) fin t else r (g j)
    rw [firstLt_map g t]
theorem firstLt_lex : ∀ ns ms : List Int, SeqAt.firstLt (fun j => decide (ns.getD j 0 = ms.getD j 0)) (fun j => decide (ns.getD j 0 < ms.getD j 0)) (decide (ns.length < ms.length)) (List.range (min ns.length ms.length)) = HT.lexLt ns ms
  | [], [] => rfl
  | [], m :: ms => by simp [SeqAt.firstLt, HT.lexLt]
  | n :: ns, [] => by simp [SeqAt.firstLt, HT.lexLt]
  | n :: ns, m :: ms => by
    have e : min (n :: ns).length (m :: ms).length = min ns.length ms.length + 1 := by simp only [List.length_cons]; omega
    rw [e, List.range_succ_eq_map]
    show (if decide (n = m) = true then _ else decide (n < m)) = if n = m then HT.lexLt ns ms else decide (n < m)
    by_cases q : n = m
    · rw [if_pos (by simpa using q), if_pos q, ← firstLt_lex ns ms, firstLt_map]
      simp
    · rw [if_neg (by simpa using q), if_neg q]
theorem intsD_map : ∀ {ds : List D} {ns : List Int}, intsD ds = some ns → ds = ns.map D.int
  | [], ns, h => by
    cases h
    rfl
  | d :: r, ns, h => by
    cases d with
    | int i =>
      have h : (intsD r).map (i :: ·) = some ns := h
      cases e : intsD r with
      | none => rw [e] at h; cases h
      | some ms =>
        rw [e] at h
        cases h
        rw [intsD_map e]
        rfl
    | _ => cases h
theorem blsD_map : ∀ {ds : List D} {ns : List Bool}, blsD ds = some ns → ds = ns.map D.bl
  | [], ns, h => by
    cases h
    rfl
  | d :: r, ns, h => by
    cases d with
    | bl i =>
      have h : (blsD r).map (i :: ·) = some ns := h
      cases e : blsD r with
      | none => rw [e] at h; cases h
      | some ms =>
        rw [e] at h
        cases h
        rw [blsD_map e]
        rfl
    | _ => cases h
theorem strsD_map : ∀ {ds : List D} {ns : List Str}, strsD ds = some ns → ds = ns.map D.str
  | [], ns, h => by
    cases h
    rfl
  | d :: r, ns, h => by
    cases d with
    | str i =>
      have h : (strsD r).map (i :: ·) = some ns := h
      cases e : strsD r with
      | none => rw [e] at h; cases h
      | some ms =>
        rw [e] at h
        cases h
        rw [strsD_map e]
        rfl
    | _ => cases h
theorem Reps.ints {F : Fr} {H : Hp} : ∀ {ns : List Int} {vs : List V}, Reps F H (ns.map D.int) vs → vs = ns.map V.int
  | [], _, h => h
  | n :: ns, _, ⟨v, r, e, h1, h2⟩ => by
    rw [e, Reps.ints h2, show v = V.int n from h1]
    rfl
theorem Reps.bls {F : Fr} {H : Hp} : ∀ {ns : List Bool} {vs : List V}, Reps F H (ns.map D.bl) vs → vs = ns.map V.bl
  | [], _, h => h
  | n :: ns, _, ⟨v, r, e, h1, h2⟩ => by
    rw [e, Reps.bls h2, show v = V.bl n from h1]
    rfl
theorem Reps.strs {F : Fr} {H : Hp} : ∀ {ns : List Str} {vs : List V}, Reps F H (ns.map D.str) vs → vs = ns.map V.str
  | [], _, h => h
  | n :: ns, _, ⟨v, r, e, h1, h2⟩ => by
    rw [e, Reps.strs h2, show v = V.str n from h1]
    rfl
/-- a list of ints that is read -/
theorem items_ints {F : Fr} {H : Hp} {d : D} {v : V} {ns : List Int} (s : Sto F H) (h : Rep F H d v) (e : (items F.st d).bind intsD = some ns) : ∃ a, v = .ref a ∧ H a = some (.lst (ns.map V.int)) := by
  cases q : items F.st d with
  | none => rw [q] at e; cases e
  | some ds =>
    rw [q] at e
    obtain ⟨a, vs, e1, e2, e3⟩ := items_rep s h q
    rw [intsD_map e] at e3
    rw [e3.ints] at e2
    exact ⟨a, e1, e2⟩
theorem items_bls {F : Fr} {H : Hp} {d : D} {v : V} {ns : List Bool} (s : Sto F H) (h : Rep F H d v) (e : (items F.st d).bind blsD = some ns) : ∃ a, v = .ref a ∧ H a = some (.lst (ns.map V.bl)) := by
  cases q : items F.st d with
  | none => rw [q] at e; cases e
  | some ds =>
    rw [q] at e
    obtain ⟨a, vs, e1, e2, e3⟩ := items_rep s h q
    rw [blsD_map e] at e3
    rw [e3.bls] at e2
    exact ⟨a, e1, e2⟩
theorem op_ltLI {X : Cx} (hu : X.A.units < cLine) : OpR X (compareOp .Lt) (fun x y H Q => ∃ a b ns ms, x = .ref a ∧ y = .ref b ∧ H a = some (.lst (ns.map V.int)) ∧ H b = some (.lst (ms.map V.int)) ∧ Q (.bl (HT.lexLt ns ms)) H) := by
  intro pins s σ H x y v u Q I rx ry ⟨a, b, ns, ms, ea, eb, ha, hb, q⟩
  subst ea eb
  cases rx
  cases ry
  obtain ⟨its, r1, p1, _⟩ := I.list (SqL.of ha)
  obtain ⟨its2, r2, p2, _⟩ := I.list (SqL.of hb)
  have i1 : IntsAre its ns := Vals.ints r1
  have i2 : IntsAre its2 ms := Vals.ints r2
  have z1 : its.toArray.size = ns.length := by rw [List.size_toArray]; exact i1.length
  have z2 : its2.toArray.size = ms.length := by rw [List.size_toArray]; exact i2.length
  have w1 : ∀ j (h1 : j < its.toArray.size), ∃ t, its.toArray[j] = .int (ns.getD j 0) t := fun j h1 => PyProof.Rows.IntsAre.int_at i1 _ _ (by simp at h1; simp [h1])
  have w2 : ∀ j (h1 : j < its2.toArray.size), ∃ t, its2.toArray[j] = .int (ms.getD j 0) t := fun j h1 => PyProof.Rows.IntsAre.int_at i2 _ _ (by simp at h1; simp [h1])
  refine SeqAt.RcLt.lists (A := X.A) (s := s) (e := fun j => decide (ns.getD j 0 = ms.getD j 0)) (r := fun j => decide (ns.getD j 0 < ms.getD j 0)) p1.isList p2.isList hu (fun j h1 h2 => ?_) (fun j h1 h2 _ => ?_) _ _ _ _ ?_
  · obtain ⟨t, et⟩ := w1 j h1
    obtain ⟨t', et'⟩ := w2 j h2
    rw [et, et']
    have q1 := SeqAt.EqAt.int_int (A := X.A.in1) (s := s) (ns.getD j 0) t (ms.getD j 0) t'
    rw [Bool.beq_eq_decide_eq] at q1
    exact q1
  · obtain ⟨t, et⟩ := w1 j h1
    obtain ⟨t', et'⟩ := w2 j h2
    rw [et, et']
    exact fun _ _ _ _ q => lt_int q
  · rw [z1, z2, firstLt_lex]
    exact ⟨.bl _, H, I, rfl, q⟩

theorem op_ltF {X : Cx} {k : Nat} (hr : Room k X.A) : OpR X (compareOp .Lt) (rV2b ltD) := by
  intro pins s σ H x y v u Q I rx ry ⟨F, d, e, z, hs, rd, re, hz, q⟩
  unfold ltD at hz
  split at hz
  · rename_i i j
    cases hz
    exact op_lt pins s σ H x y v u Q I rx ry ⟨i, j, rd, re, q⟩
  · split at hz
    · rename_i ns ms h1 h2
      cases hz
      obtain ⟨a, ea, ha⟩ := items_ints hs rd h1
      obtain ⟨b, eb, hb⟩ := items_ints hs re h2
      exact op_ltLI hr.units0 pins s σ H x y v u Q I rx ry ⟨a, b, ns, ms, ea, eb, ha, hb, q⟩
    · cases hz
/-! ### in -/
theorem flat_rep {F : Fr} {H : Hp} {d : D} {v : V} (h : flatD d = true) (r : Rep F H d v) : flatV v = true := by
  cases d <;> first | (cases h; done) | (rw [show v = _ from r]; rfl)
theorem eqV_flat {F : Fr} {H : Hp} {d e : D} {v u : V} (h : flatD d = true) (h' : flatD e = true) (r : Rep F H d v) (r' : Rep F H e u) : eqV v u = PyData.eqv (toP d) (toP e) := by
  cases d <;> first | cases h | skip
  all_goals (cases e <;> first | cases h' | skip)
  all_goals (rw [show v = _ from r, show u = _ from r']; simp [eqV, toP, PyData.eqv])
theorem inV_flat {F : Fr} {H : Hp} {e : D} {u : V} (h' : flatD e = true) (r' : Rep F H e u) : ∀ {ds : List D} {vs : List V}, ds.all flatD = true → Reps F H ds vs → (vs.all flatV = true ∧ inV u vs = (toPs ds).any fun z => PyData.eqv z (toP e))
  | [], vs, _, r => by
    rw [show vs = [] from r]
    exact ⟨rfl, by simp [inV, toPs]⟩
  | d :: ds, _, h, ⟨v, r, e1, h1, h2⟩ => by
    rw [List.all_cons, Bool.and_eq_true] at h
    obtain ⟨i1, i2⟩ := inV_flat h' r' h.2 h2
    subst e1
    refine ⟨by rw [List.all_cons, flat_rep h.1 h1, i1]; rfl, ?_⟩
    show (eqV v u || inV u r) = _
    rw [i2, eqV_flat h.1 h' h1 r', toPs, List.any_cons]
theorem op_inF {X : Cx} {k : Nat} (hr : Room k X.A) : OpR X (compareOp .In) (rV2b inD) ∧ OpR X (compareOp .NotIn) (rV2b fun st a b => (inD st a b).map (!·)) := by
  have key : ∀ {F : Fr} {H : Hp} {d e : D} {x y : V} {z : Bool}, Sto F H → Rep F H d x → Rep F H e y → inD F.st d e = some z →
      (∃ i j, x = .str i ∧ y = .str j ∧ z = !(Builtin.Str.occurrences j i 0 j.length 1).isEmpty) ∨
      (∃ p xs, y = .ref p ∧ (SqL X.K H p xs ∨ SqT X.K H p xs) ∧ flatV x = true ∧ xs.all flatV = true ∧ z = inV x xs) ∨
      ∃ d ds, Dp X.K H x d ∧ Dp X.K H y (.list ds) ∧ SeqAt.shaped d = true ∧ SeqAt.shaped (.list ds) = true ∧ z = ds.any fun z => PyData.eqv z d := by
    intro F H d e x y z hs rd re hz
    unfold inD at hz
    split at hz
    · split at hz
      · cases hz
        exact .inl ⟨_, _, rd, re, rfl⟩
      · cases hz
    · split at hz
      · rename_i hf
        cases hz
        simp only [Bool.and_eq_true] at hf
        obtain ⟨a, vs, ea, _, ha, rs⟩ := re
        obtain ⟨i1, i2⟩ := inV_flat hf.1 rd hf.2 rs
        exact .inr (.inl ⟨a, vs, ea, .inr (SqT.of ha), flat_rep hf.1 rd, i1, i2.symm⟩)
      · cases hz
    · split at hz
      · rename_i a b ha hb
        split at hz
        · rename_i hf
          cases hz
          simp only [Bool.and_eq_true] at hf
          have q := (snap_dp (K := X.K) hs re hb).1
          rw [toP] at q
          exact .inr (.inr ⟨_, _, (snap_dp hs rd ha).1, q, hf.1, hf.2, rfl⟩)
        · cases hz
      · cases hz
  refine ⟨fun pins s σ H x y v u Q I rx ry ⟨F, d, e, z, hs, rd, re, hz, q⟩ => ?_, fun pins s σ H x y v u Q I rx ry ⟨F, d, e, z, hs, rd, re, hz, q⟩ => ?_⟩
  · rcases key hs rd re hz with ⟨i, j, h1, h2, rfl⟩ | ⟨p, xs, h1, h2, h3, h4, rfl⟩ | ⟨d, ds, h1, h2, h3, h4, rfl⟩
    · exact op_in_str pins s σ H x y v u Q I rx ry ⟨i, j, h1, h2, q⟩
    · exact op_in_seq pins s σ H x y v u Q I rx ry ⟨p, xs, h1, h2, h3, h4, q⟩
    · exact op_inD (room64 hr) pins s σ H x y v u Q I rx ry ⟨d, ds, h1, h2, h3, h4, q⟩
  · replace hz : (inD F.st d e).map (!·) = some z := hz
    cases hq : inD F.st d e with
    | none => rw [hq] at hz; cases hz
    | some r =>
      rw [hq] at hz
      cases hz
      rcases key hs rd re hq with ⟨i, j, h1, h2, rfl⟩ | ⟨p, xs, h1, h2, h3, h4, rfl⟩ | ⟨d, ds, h1, h2, h3, h4, rfl⟩
      · exact op_notin_str pins s σ H x y v u Q I rx ry ⟨i, j, h1, h2, q⟩
      · exact op_notIn_seq pins s σ H x y v u Q I rx ry ⟨p, xs, h1, h2, h3, h4, q⟩
      · exact op_notInD (room64 hr) pins s σ H x y v u Q I rx ry ⟨d, ds, h1, h2, h3, h4, q⟩
/-! ### is -/
theorem rep_non {F : Fr} {H : Hp} {d : D} {v : V} (r : Rep F H d v) : decide (v = .non) = nonB d := by
  cases d with
  | lst _ => obtain ⟨a, vs, e, _⟩ := r; rw [e]; rfl
  | tup _ => obtain ⟨a, vs, e, _⟩ := r; rw [e]; rfl
  | dic _ => obtain ⟨a, vs, e, _⟩ := r; rw [e]; rfl
  | scr _ => obtain ⟨a, o, e, _⟩ := r; rw [e]; rfl
  | cel _ => obtain ⟨e, _⟩ := r; rw [e]; rfl
  | exv _ _ => obtain ⟨_, a, dx, u, e, _⟩ := r; rw [e]; rfl
  | _ => rw [show v = _ from r]; rfl
theorem rep_blB {F : Fr} {H : Hp} {d : D} {v : V} (b : Bool) (r : Rep F H d v) : decide (v = .bl b) = blB b d := by
  cases d with
  | lst _ => obtain ⟨a, vs, e, _⟩ := r; rw [e]; rfl
  | tup _ => obtain ⟨a, vs, e, _⟩ := r; rw [e]; rfl
  | dic _ => obtain ⟨a, vs, e, _⟩ := r; rw [e]; rfl
  | scr _ => obtain ⟨a, o, e, _⟩ := r; rw [e]; rfl
  | cel _ => obtain ⟨e, _⟩ := r; rw [e]; rfl
  | exv _ _ => obtain ⟨_, a, dx, u, e, _⟩ := r; rw [e]; rfl
  | bl a => rw [show v = _ from r]; simp [blB]
  | _ => rw [show v = _ from r]; rfl
theorem val_bool {x : V} {v : Value} (b : Bool) (r : RelV x v) : plainIs v (.bool b) = true ∧ (v == Value.bool b) = decide (x = .bl b) := by
  cases x with
  | non => cases r; exact ⟨rfl, rfl⟩
  | bl a => cases r; refine ⟨rfl, ?_⟩; cases a <;> cases b <;> rfl
  | int _ => obtain ⟨t, rfl⟩ := r; exact ⟨rfl, rfl⟩
  | str _ => obtain ⟨t, rfl⟩ := r; exact ⟨rfl, rfl⟩
  | byt _ => obtain ⟨t, rfl⟩ := r; exact ⟨rfl, rfl⟩
  | flt _ => obtain ⟨t, rfl⟩ := r; exact ⟨rfl, rfl⟩
  | ref _ => cases r; exact ⟨rfl, rfl⟩
  | ty _ => cases r; exact ⟨rfl, rfl⟩
theorem op_isF {X : Cx} : OpR X (compareOp .Is) (rV2b fun _ a b => isD a b) ∧ OpR X (compareOp .IsNot) (rV2b fun _ a b => (isD a b).map (!·)) := by
  refine ⟨fun pins s σ H x y v u Q I rx ry ⟨F, d, e, z, hs, rd, re, hz, q⟩ => ?_, fun pins s σ H x y v u Q I rx ry ⟨F, d, e, z, hs, rd, re, hz, q⟩ => ?_⟩
  · replace hz : isD d e = some z := hz
    cases e with
    | non =>
      cases hz
      rw [show y = _ from re] at ry
      exact op_isN pins s σ H x .non v u Q I rx ry ⟨rfl, by rw [rep_non rd]; exact q⟩
    | bl b =>
      cases hz
      rw [show y = _ from re] at ry
      cases ry
      obtain ⟨p1, p2⟩ := val_bool b rx
      refine wpAny_is_plain p1 ?_
      rw [p2, rep_blB b rd]
      exact ⟨.bl _, H, I, rfl, q⟩
    | _ => cases hz
  · replace hz : (isD d e).map (!·) = some z := hz
    cases e with
    | non =>
      cases hz
      rw [show y = _ from re] at ry
      exact op_notN pins s σ H x .non v u Q I rx ry ⟨rfl, by rw [rep_non rd]; exact q⟩
    | bl b =>
      cases hz
      rw [show y = _ from re] at ry
      cases ry
      obtain ⟨p1, p2⟩ := val_bool b rx
      refine wpAny_isNot_plain p1 ?_
      rw [p2, rep_blB b rd]
      exact ⟨.bl _, H, I, rfl, q⟩
    | _ => cases hz
/-! ### every comparison -/
theorem op_cmp {X : Cx} {k : Nat} (hr : Room k X.A) {op : Co} {o : CmpOp} (h : okCo op o = true) : OpR X (compareOp o) (rV2b fun st a b => cmpD st op a b) := by
  have two : ∀ {f : Int → Int → Bool}, OpR X (compareOp o) (rI0 fun i j => .bl (f i j)) → (∀ st a b, cmpD st op a b = match a, b with | .int i, .int j => some (f i j) | _, _ => none) → OpR X (compareOp o) (rV2b fun st a b => cmpD st op a b) := by
    intro f hf hc pins s σ H x y v u Q I rx ry ⟨F, d, e, z, hs, rd, re, hz, q⟩
    replace hz : cmpD F.st op d e = some z := hz
    rw [hc] at hz
    split at hz
    · cases hz
      exact hf pins s σ H x y v u Q I rx ry ⟨_, _, rd, re, q⟩
    · cases hz
  cases op <;> cases o <;> first | (cases h; done) | skip
  · exact op_ltF hr
  · exact two op_le fun _ a b => by cases a <;> cases b <;> rfl
  · exact two op_gt fun _ a b => by cases a <;> cases b <;> rfl
  · exact two op_ge fun _ a b => by cases a <;> cases b <;> rfl
  · exact op_eqF hr
  · exact op_neF hr
  · exact (op_inF hr).1
  · exact (op_inF hr).2
  · exact op_isF.1
  · exact op_isF.2
section
variable {C : Nat → Addr} {W : WX} {c : Cxt}
theorem evT_cmp {a b e : Ex} {f : Store → D → D → Option Bool} (he : ∀ ρ st, ev c e ρ st = (ev c a ρ st).bind fun x st => (ev c b ρ st).bind fun y st => ofO ((f st x y).map .bl) st) {σ : L2.St} {H : Hp} {Q : VK} (h : evT C W c e σ H Q) :
    tOp (rV2b f) (evT C W c a) (evT C W c b) σ H Q := by
  obtain ⟨F, ρ, hs, hl, h⟩ := h
  rw [he] at h
  refine MP.two hs hl h fun F2 H2 x y vx vy s2 r1 r2 e2 h2 => ?_
  cases hz : f F2.st x y with
  | none =>
    rw [hz] at h2
    exact h2.elim
  | some z =>
    rw [hz] at h2
    exact ⟨F2, x, y, z, s2, r1, r2, hz, h2.val s2 rfl⟩
theorem pe_cmp {X : Cx} {k : Nat} (hr : Room k X.A) {a b : Ex} {x y : Expr} {op : Co} {o : CmpOp} {p : Pos} (h : okCo op o = true) (hm : behindInMarks o y = false) (ha : PE X x (evT C W c a)) (hb : PE X y (evT C W c b)) : PE X (.Compare x [o] [y] p) (evT C W c (.cmp op a b)) :=
  imp_e (pe_cmpR (op_cmp hr h) ha hb hm) fun _ _ _ w => evT_cmp (e := .cmp op a b) (f := fun st x y => cmpD st op x y) (fun _ _ => by rw [ev]) w
theorem evT_chn {a b d : Ex} {o p : Co} {σ : L2.St} {H : Hp} {Q : VK} (h : evT C W c (.chn o p a b d) σ H Q) :
    tChain (rV2b fun st a b => cmpD st o a b) (rV2b fun st a b => cmpD st p a b) (evT C W c a) (evT C W c b) (evT C W c d) σ H Q := by
  obtain ⟨F, ρ, hs, hl, h⟩ := h
  rw [ev] at h
  refine ⟨F, ρ, hs, hl, Aft.mono (Aft.bind h) fun F1 H1 x vx e1 s1 r1 h1 => ?_⟩
  refine ⟨F1, ρ, s1, hl.ext e1, Aft.mono (Aft.bind h1) fun F2 H2 y vy e2 s2 r2 h2 => ?_⟩
  cases hz : cmpD F2.st o x y with
  | none =>
    rw [hz] at h2
    exact h2.elim
  | some z =>
    rw [hz] at h2
    refine ⟨F2, x, y, z, s2, r1.ext e2, r2, hz, z, rfl, ?_⟩
    cases z with
    | false =>
      rw [if_neg Bool.false_ne_true]
      exact h2.val s2 rfl
    | true =>
      rw [if_pos rfl]
      refine ⟨F2, ρ, s2, (hl.ext e1).ext e2, Aft.mono (Aft.bind h2) fun F3 H3 w vw e3 s3 r3 h3 => ?_⟩
      cases hq : cmpD F3.st p y w with
      | none =>
        rw [hq] at h3
        exact h3.elim
      | some q =>
        rw [hq] at h3
        exact ⟨F3, y, w, q, s3, r2.ext e3, r3, hq, h3.val s3 rfl⟩
theorem pe_chn {X : Cx} {k : Nat} (hr : Room k X.A) {a b d : Ex} {x y z : Expr} {o p : Co} {o' p' : CmpOp} {pos : Pos} (h : okCo o o' = true) (h' : okCo p p' = true) (hm : lastMarks [o', p'] [y, z] = false) (ha : PE X x (evT C W c a)) (hb : PE X y (evT C W c b)) (hd : PE X z (evT C W c d)) :
    PE X (.Compare x [o', p'] [y, z] pos) (evT C W c (.chn o p a b d)) :=
  imp_e (pe_chain (op_cmp hr h) (op_cmp hr h') ha hb hd hm) fun _ _ _ w => evT_chn w
end
end MP
end
section
set_option maxRecDepth 100000
set_option maxHeartbeats 4000000
/-! MPSnd5: and, or, not, if; displays; arguments. -/
namespace MP
open PySem L2
variable [Glo]
section
variable {C : Nat → Addr} {W : WX} {c : Cxt} {X : Cx}
def Wσ (W : WX) (σ : L2.St) : Value → Option Addr → Hp → Prop := fun cl d H' => W cl d σ H'

/-- a value that must be a bool, then a step -/
theorem bindB {α β : Type} {Rel : Fr → Hp → α → β → Prop} {We : Value → Option Addr → Hp → Prop} {F : Fr} {H : Hp} {r : R D} {g : D → Store → R α} {Q : Fr → Hp → α → β → Prop} (hg : ∀ d st, tb d = none → g d st = .bad)
    (h : Aft Rel C We F H (r.bind g) Q) : Aft Eqr C We F H (r.bind fun d st => ofO (tb d) st) fun F1 H1 k _ => Aft Rel C We F1 H1 (g (.bl k) F1.st) Q := by
  cases r with
  | ok d st =>
    rw [R.bind_ok] at h ⊢
    cases hd : tb d with
    | none =>
      rw [hg d st hd] at h
      exact h.elim
    | some k =>
      have e : d = .bl k := by
        cases d <;> cases hd
        rfl
      subst e
      intro F' H' b e x s q
      subst e
      exact Aft.later x h
  | exc k d st => exact h
  | bad => exact h
theorem bindV {α β : Type} {Rel : Fr → Hp → α → β → Prop} {We : Value → Option Addr → Hp → Prop} {F : Fr} {H : Hp} {r : R D} {g : D → Store → R α} {Q : Fr → Hp → α → β → Prop} (hg : ∀ d st, tb d = none → g d st = .bad)
    (h : Aft Rel C We F H (r.bind g) Q) : Aft Rep C We F H r fun F1 H1 d v => ∃ k, d = .bl k ∧ v = .bl k ∧ Aft Rel C We F1 H1 (g (.bl k) F1.st) Q := by
  refine Aft.mono (Aft.bind h) fun F' H' d v _ _ rp q => ?_
  cases hd : tb d with
  | none =>
    rw [hg _ _ hd] at q
    exact q.elim
  | some k =>
    have e : d = .bl k := by
      cases d <;> cases hd
      rfl
    subst e
    exact ⟨k, rfl, rp, q⟩
theorem bind_assoc {α β γ : Type} (r : R α) (f : α → Store → R β) (g : β → Store → R γ) : (r.bind f).bind g = r.bind fun a st => (f a st).bind g := by
  cases r <;> rfl
theorem Aft.eq_mono {We : Value → Option Addr → Hp → Prop} {F : Fr} {H : Hp} {r : R Bool} {Q : Fr → Hp → Bool → Bool → Prop} {Q' : Bool → Hp → Prop} (h : Aft Eqr C We F H r Q) (k : ∀ F' H' b, Ext F H F' H' → Sto F' H' → Q F' H' b b → Q' b H') : Aft Eqr C We F H r fun _ H' _ b => Q' b H' :=
  h.mono fun F' H' a b x s e q => by
    have e : a = b := e
    subst e
    exact k F' H' a x s q
/-- a bool, as a test -/
theorem tt_of {a : Ex} {x : Expr} (h : PE X x (evT C W c a)) (hx : ∀ whole, isTrue x X.env whole = (do let v ← whole; standAt x.pos; holding [v] (truthy v))) : PT X x (evTT C W c a) := by
  refine imp_t (pt_val h hx) fun σ H Q ⟨F, ρ, hs, hl, w⟩ => ?_
  refine ⟨F, ρ, hs, hl, Aft.mono (bindV (fun d st e => by rw [e]; rfl) w) fun F1 H1 d v _ s1 _ ⟨k, e1, e2, q⟩ => ⟨k, e2, ?_⟩⟩
  exact q F1 H1 k rfl (Ext.refl F1 H1) s1 rfl
theorem tt_cmp {a : Ex} {x y : Expr} {o : CmpOp} {p : Pos} (h : PE X (.Compare x [o] [y] p) (evT C W c a)) (h1 : PT X (.Compare x [o] [y] p) (fun σ H Q => evT C W c a σ H fun v H1 => ∃ k, v = .bl k ∧ Q k H1)) : PT X (.Compare x [o] [y] p) (evTT C W c a) := by
  refine imp_t h1 fun σ H Q ⟨F, ρ, hs, hl, w⟩ => ?_
  refine ⟨F, ρ, hs, hl, Aft.mono (bindV (fun d st e => by rw [e]; rfl) w) fun F1 H1 d v _ s1 _ ⟨k, e1, e2, q⟩ => ⟨k, e2, ?_⟩⟩
  exact q F1 H1 k rfl (Ext.refl F1 H1) s1 rfl
/-- a test's reading, from a value's -/
theorem tt_val {a : Ex} {σ : L2.St} {H : Hp} {Q : Bool → Hp → Prop} (h : evTT C W c a σ H Q) : evT C W c a σ H fun v H1 => ∃ k, v = .bl k ∧ Q k H1 := by
  obtain ⟨F, ρ, hs, hl, w⟩ := h
  refine ⟨F, ρ, hs, hl, Aft.mono (bindV (fun d st e => by rw [e]; rfl) w) fun F1 H1 d v _ s1 _ ⟨k, e1, e2, q⟩ => ⟨k, e2, ?_⟩⟩
  exact q F1 H1 k rfl (Ext.refl F1 H1) s1 rfl

theorem ev_and {a b : Ex} {ρ : Sl} {st : Store} : ev c (.and a b) ρ st = (ev c a ρ st).bind fun x st => match x with
    | .bl true => ev c b ρ st
    | .bl false => .ok (.bl false) st
    | _ => .bad := by
  (rw [ev]) <;> rfl
theorem ev_or {a b : Ex} {ρ : Sl} {st : Store} : ev c (.or a b) ρ st = (ev c a ρ st).bind fun x st => match x with
    | .bl true => .ok (.bl true) st
    | .bl false => ev c b ρ st
    | _ => .bad := by
  (rw [ev]) <;> rfl
theorem tAnd_of {a b : Ex} {σ : L2.St} {H : Hp} {Q : Bool → Hp → Prop} (h : evTT C W c (.and a b) σ H Q) : tAnd (evTT C W c a) (evTT C W c b) σ H Q := by
  obtain ⟨F, ρ, hs, hl, w⟩ := h
  rw [ev_and, bind_assoc] at w
  refine ⟨F, ρ, hs, hl, (bindB (fun d st e => ?_) w).eq_mono fun F1 H1 k x s q => ?_⟩
  · cases d <;> first | (cases e; done) | rfl
  · cases k with
    | false =>
      rw [if_neg Bool.false_ne_true]
      exact q F1 H1 false rfl (Ext.refl F1 H1) s rfl
    | true =>
      rw [if_pos rfl]
      exact ⟨F1, ρ, s, hl.ext x, q⟩
theorem tOr_of {a b : Ex} {σ : L2.St} {H : Hp} {Q : Bool → Hp → Prop} (h : evTT C W c (.or a b) σ H Q) : tOr (evTT C W c a) (evTT C W c b) σ H Q := by
  obtain ⟨F, ρ, hs, hl, w⟩ := h
  rw [ev_or, bind_assoc] at w
  refine ⟨F, ρ, hs, hl, (bindB (fun d st e => ?_) w).eq_mono fun F1 H1 k x s q => ?_⟩
  · cases d <;> first | (cases e; done) | rfl
  · cases k with
    | true =>
      rw [if_pos rfl]
      exact q F1 H1 true rfl (Ext.refl F1 H1) s rfl
    | false =>
      rw [if_neg Bool.false_ne_true]
      exact ⟨F1, ρ, s, hl.ext x, q⟩
theorem tAndV_of {a b : Ex} {σ : L2.St} {H : Hp} {Q : VK} (h : evT C W c (.and a b) σ H Q) : tAndV (evT C W c a) (evT C W c b) σ H Q := by
  obtain ⟨F, ρ, hs, hl, w⟩ := h
  rw [ev_and] at w
  refine ⟨F, ρ, hs, hl, (bindV (fun d st e => ?_) w).mono fun F1 H1 d v x s _ ⟨k, e1, e2, q⟩ => ⟨k, e2, ?_⟩⟩
  · cases d <;> first | (cases e; done) | rfl
  · cases k with
    | false =>
      rw [if_neg Bool.false_ne_true]
      exact q.val s rfl
    | true =>
      rw [if_pos rfl]
      exact ⟨F1, ρ, s, hl.ext x, q⟩
theorem tOrV_of {a b : Ex} {σ : L2.St} {H : Hp} {Q : VK} (h : evT C W c (.or a b) σ H Q) : tOrV (evT C W c a) (evT C W c b) σ H Q := by
  obtain ⟨F, ρ, hs, hl, w⟩ := h
  rw [ev_or] at w
  refine ⟨F, ρ, hs, hl, (bindV (fun d st e => ?_) w).mono fun F1 H1 d v x s _ ⟨k, e1, e2, q⟩ => ⟨k, e2, ?_⟩⟩
  · cases d <;> first | (cases e; done) | rfl
  · cases k with
    | true =>
      rw [if_pos rfl]
      exact q.val s rfl
    | false =>
      rw [if_neg Bool.false_ne_true]
      exact ⟨F1, ρ, s, hl.ext x, q⟩
theorem ev_not {a : Ex} {ρ : Sl} {st : Store} : ev c (.not a) ρ st = (ev c a ρ st).bind fun x st => match x with
    | .bl k => .ok (.bl (!k)) st
    | _ => .bad := by
  (rw [ev]) <;> rfl
theorem tNot_of {a : Ex} {σ : L2.St} {H : Hp} {Q : Bool → Hp → Prop} (h : evTT C W c (.not a) σ H Q) : tNot (evTT C W c a) σ H Q := by
  obtain ⟨F, ρ, hs, hl, w⟩ := h
  rw [ev_not, bind_assoc] at w
  refine ⟨F, ρ, hs, hl, (bindB (fun d st e => ?_) w).eq_mono fun F1 H1 k x s q => ?_⟩
  · cases d <;> first | (cases e; done) | rfl
  · exact q F1 H1 (!k) rfl (Ext.refl F1 H1) s rfl
theorem tNotV_of {a : Ex} {σ : L2.St} {H : Hp} {Q : VK} (h : evT C W c (.not a) σ H Q) : tNotV (evT C W c a) σ H Q := by
  obtain ⟨F, ρ, hs, hl, w⟩ := h
  rw [ev_not] at w
  refine ⟨F, ρ, hs, hl, (bindV (fun d st e => ?_) w).mono fun F1 H1 d v x s _ ⟨k, e1, e2, q⟩ => ⟨k, e2, q.val s rfl⟩⟩
  cases d <;> first | (cases e; done) | rfl
theorem tIf_of {t a b : Ex} {σ : L2.St} {H : Hp} {Q : VK} (h : evT C W c (.ife t a b) σ H Q) : tIf (evTT C W c t) (evT C W c a) (evT C W c b) σ H Q := by
  obtain ⟨F, ρ, hs, hl, w⟩ := h
  rw [ev] at w
  refine ⟨F, ρ, hs, hl, (bindB (fun d st e => ?_) w).eq_mono fun F1 H1 k x s q => ?_⟩
  · cases d <;> first | (cases e; done) | rfl
  · cases k with
    | true =>
      rw [if_pos rfl]
      exact ⟨F1, ρ, s, hl.ext x, q⟩
    | false =>
      rw [if_neg Bool.false_ne_true]
      exact ⟨F1, ρ, s, hl.ext x, q⟩
/-! ### arguments, displays -/
theorem pa_nilF : PA X [] (evsT C W c .nil) := by
  refine imp_a pa_nil fun σ H Q ⟨F, ρ, hs, hl, w⟩ => ?_
  rw [evs] at w
  exact w.ok_now hs rfl
theorem evsT_cons {e : Ex} {es : Exs} {σ : L2.St} {H : Hp} {Q : List V → Hp → Prop} (h : evsT C W c (.cons e es) σ H Q) : tCons (evT C W c e) (evsT C W c es) σ H Q := by
  obtain ⟨F, ρ, hs, hl, w⟩ := h
  rw [evs] at w
  refine ⟨F, ρ, hs, hl, (Aft.bind w).mono fun F1 H1 d v x1 s1 r1 q1 => ?_⟩
  refine ⟨F1, ρ, s1, hl.ext x1, (Aft.bind q1).mono fun F2 H2 ds vs x2 s2 r2 q2 => ?_⟩
  exact q2.ok_now s2 ⟨v, vs, rfl, r1.ext x2, r2⟩
end
end MP
end
section
set_option maxRecDepth 100000
set_option maxHeartbeats 4000000
/-! MPSnd6: items, slices. -/
namespace MP
open PySem L2
variable [Glo]
section
variable {C : Nat → Addr} {W : WX} {c : Cxt} {X : Cx}
theorem atI_rep {F : Fr} {H : Hp} {ds : List D} {vs : List V} {i : Int} {z : D} (r : Reps F H ds vs) (h : atI ds i = some z) : ∃ v, atI vs i = some v ∧ Rep F H z v := by
  unfold atI at h ⊢
  rw [← r.length]
  cases e : ixN ds.length i with
  | none => rw [e] at h; cases h
  | some j =>
    rw [e] at h
    exact r.get h
theorem atI_map {α β : Type} (f : α → β) (xs : List α) (i : Int) : atI (xs.map f) i = (atI xs i).map f := by
  unfold atI
  rw [List.length_map]
  cases ixN xs.length i with
  | none => rfl
  | some j => simp
theorem ix_F : IxR X (rV2 subD) := by
  intro value slice pins s σ H x y v u Q I rx ry ⟨F, d, e, z, hs, rd, re, hz, q⟩ hsub
  have q0 : ∀ v, Rep F H z v → Q v H := fun v r => q H v (Ext.refl F H) hs r
  unfold subD at hz
  split at hz
  · rename_i xs i
    obtain ⟨a, vs, ea, _, ha, rs⟩ := rd
    obtain ⟨w, hw, rw'⟩ := atI_rep rs hz
    exact ix_tup value slice pins s σ H x y v u Q I rx ry ⟨a, vs, i, w, ea, re, SqT.of ha, hw, q0 w rw'⟩ hsub
  · rename_i t i
    split at hz
    · rename_i hl
      rw [line_eq] at hl
      cases hc : atI t.cps.toList i with
      | none => rw [hc] at hz; cases hz
      | some k =>
        rw [hc] at hz
        cases hz
        exact ix_str value slice pins s σ H x y v u Q I rx ry ⟨t, i, k, rd, re, hl, hc, q0 _ rfl⟩ hsub
    · cases hz
  · rename_i ns i
    obtain ⟨a, o, ea, _, ha⟩ := rd
    cases hc : atI ns i with
    | none => rw [hc] at hz; cases hz
    | some k =>
      rw [hc] at hz
      cases hz
      exact ix_list value slice pins s σ H x y v u Q I rx ry ⟨a, ns.map V.int, i, .int k, ea, re, .inl (.inr ⟨o, ha⟩), by rw [atI_map, hc]; rfl, q0 _ rfl⟩ hsub
  · rename_i i _ _ _
    cases hi : items F.st d with
    | none => rw [hi] at hz; cases hz
    | some ds =>
      rw [hi] at hz
      obtain ⟨a, vs, ea, ha, rs⟩ := items_rep hs rd hi
      obtain ⟨w, hw, rw'⟩ := atI_rep rs (show atI ds i = some z from hz)
      exact ix_list value slice pins s σ H x y v u Q I rx ry ⟨a, vs, i, w, ea, re, SqL.of ha, hw, q0 w rw'⟩ hsub
  · cases hz
theorem plainIx_of {y : Expr} (h : isSlice y = false) : PlainIx y := by
  intro o i
  cases y <;> first | rfl | cases h
theorem pe_subF {a b : Ex} {x y : Expr} {p : Pos} (h : isSlice y = false) (ha : PE X x (evT C W c a)) (hb : PE X y (evT C W c b)) : PE X (.Subscript x y p) (evT C W c (.sub a b)) :=
  imp_e (pe_ix ix_F ha hb (plainIx_of h)) fun _ _ _ w => evT_op (e := .sub a b) (f := subD) (fun _ _ => by rw [ev]) w
/-! ### slices -/
def evoT (C : Nat → Addr) (W : WX) (c : Cxt) (o : Ox) : TO := fun σ H Q => ∃ F ρ, Sto F H ∧ Slo F H ρ σ ∧ Aft Eqr C (fun cl d H' => W cl d σ H') F H (evo c o ρ F.st) fun _ H' _ b => Q b H'
theorem po_non : PO X none (evoT C W c .non) := by
  refine ⟨fun pins s σ H Q I ⟨F, ρ, hs, hl, w⟩ => po_none.run pins s σ H Q I ?_⟩
  rw [evo] at w
  exact w.ok_now hs rfl
theorem po_som {e : Ex} {x : Expr} (h : PE X x (evT C W c e)) : PO X (some x) (evoT C W c (.som e)) := by
  refine ⟨fun pins s σ H Q I ⟨F, ρ, hs, hl, w⟩ => (po_some h).run pins s σ H Q I ?_⟩
  rw [evo] at w
  refine ⟨F, ρ, hs, hl, (Aft.bind w).mono fun F1 H1 d v x1 s1 r1 q1 => ?_⟩
  cases d with
  | int i => exact ⟨i, r1, q1 F1 H1 (some i) rfl (Ext.refl F1 H1) s1 rfl⟩
  | _ => exact q1.elim
def rSlF : V → Option Int → Option Int → Hp → VK → Prop := fun x l h H Q => ∃ F d z, Sto F H ∧ Rep F H d x ∧ slcD F.st d l h = some z ∧ ∀ H' v, Ext F H F H' → Sto F H' → Rep F H' z v → Q v H'
theorem Reps.take {F : Fr} {H : Hp} : ∀ {ds : List D} {vs : List V} (n : Nat), Reps F H ds vs → Reps F H (ds.take n) (vs.take n)
  | [], vs, n, h => by
    rw [show vs = [] from h]
    simp only [List.take_nil]
    rfl
  | d :: ds, _, 0, _ => rfl
  | d :: ds, _, n + 1, ⟨v, r, e, h1, h2⟩ => by
    subst e
    exact ⟨v, r.take n, rfl, h1, h2.take n⟩
theorem Reps.drop {F : Fr} {H : Hp} : ∀ {ds : List D} {vs : List V} (n : Nat), Reps F H ds vs → Reps F H (ds.drop n) (vs.drop n)
  | [], vs, n, h => by
    rw [show vs = [] from h]
    simp only [List.drop_nil]
    rfl
  | d :: ds, _, 0, h => h
  | d :: ds, _, n + 1, ⟨v, r, e, h1, h2⟩ => by
    subst e
    exact h2.drop n
theorem Reps.cut {F : Fr} {H : Hp} {ds : List D} {vs : List V} (l h : Option Int) (r : Reps F H ds vs) : Reps F H (cutL ds l h) (cutV vs l h) := by
  unfold cutL cutV
  rw [r.length]
  exact (r.drop _).take _
theorem cutL_map {α β : Type} (f : α → β) (xs : List α) (l h : Option Int) : cutL (xs.map f) l h = (cutL xs l h).map f := by
  unfold cutL
  rw [List.length_map, List.map_take, List.map_drop]
theorem reps_ints {F : Fr} {H : Hp} : ∀ ns : List Int, Reps F H (ns.map D.int) (ns.map V.int)
  | [] => rfl
  | n :: ns => ⟨V.int n, _, rfl, rfl, reps_ints ns⟩
theorem sl_F : SlR X rSlF := by
  intro pins s σ H x v vl vu lo hi sl Q I rx hsl pl pu ⟨F, d, z, hs, rd, hz, q⟩
  have q0 : ∀ v, Rep F H z v → Q v H := fun v r => q H v (Ext.refl F H) hs r
  unfold slcD at hz
  split at hz
  · rename_i ns
    cases hz
    obtain ⟨a, o, ea, _, ha⟩ := rd
    refine sl_list pins s σ H x v vl vu lo hi sl Q I rx hsl pl pu ⟨a, ns.map V.int, ea, .inl (.inr ⟨o, ha⟩), fun p hp => ?_⟩
    refine q _ _ (Ext.fresh F _ hp) (hs.fresh _ hp) (Rep.newL hs hp ?_)
    have e : cutV (ns.map V.int) lo hi = (cutL ns lo hi).map V.int := cutL_map V.int ns lo hi
    rw [e]
    exact reps_ints _
  · rename_i xs
    obtain ⟨a, vs, ea, _, ha, rs⟩ := rd
    split at hz
    · cases hz
    · rename_i hn
      cases hz
      rw [rs.length] at hn
      exact sl_tup pins s σ H x v vl vu lo hi sl Q I rx hsl pl pu ⟨a, vs, ea, SqT.of ha, hn, fun p hp => q _ _ (Ext.fresh F _ hp) (hs.fresh _ hp) (Rep.newT hs hp (rs.cut lo hi))⟩
  · rename_i t
    split at hz
    · rename_i hl
      cases hz
      rw [line_eq] at hl
      exact sl_str pins s σ H x v vl vu lo hi sl Q I rx hsl pl pu ⟨t, rd, hl, q0 _ rfl⟩
    · cases hz
  · cases hi' : items F.st d with
    | none => rw [hi'] at hz; cases hz
    | some ds =>
      rw [hi'] at hz
      cases hz
      obtain ⟨a, vs, ea, ha, rs⟩ := items_rep hs rd hi'
      exact sl_list pins s σ H x v vl vu lo hi sl Q I rx hsl pl pu ⟨a, vs, ea, SqL.of ha, fun p hp => q _ _ (Ext.fresh F _ hp) (hs.fresh _ hp) (Rep.newL hs hp (rs.cut lo hi))⟩
theorem pe_slcF {a : Ex} {lo hi : Ox} {x : Expr} {l h : Option Expr} {q p : Pos} (ha : PE X x (evT C W c a)) (hl : PO X l (evoT C W c lo)) (hh : PO X h (evoT C W c hi)) : PE X (.Subscript x (.Slice l h none q) p) (evT C W c (.slc a lo hi)) := by
  refine imp_e (pe_slice sl_F ha hl hh) fun σ H Q ⟨F, ρ, hs, hl, w⟩ => ?_
  rw [ev] at w
  refine ⟨F, ρ, hs, hl, (Aft.bind w).mono fun F1 H1 d v x1 s1 r1 q1 => ?_⟩
  refine ⟨F1, ρ, s1, hl.ext x1, (Aft.bind q1).mono fun F2 H2 l1 l2 x2 s2 e2 q2 => ?_⟩
  refine ⟨F2, ρ, s2, (hl.ext x1).ext x2, (Aft.bind q2).mono fun F3 H3 h1 h2 x3 s3 e3 q3 => ?_⟩
  have e2 : l1 = l2 := e2
  have e3 : h1 = h2 := e3
  subst e2 e3
  cases hz : slcD F3.st d l1 h1 with
  | none => rw [hz] at q3; exact q3.elim
  | some z =>
    rw [hz] at q3
    exact ⟨F3, d, z, s3, (r1.ext x2).ext x3, hz, fun H' v xe sn r => q3 F3 H' v rfl xe sn r⟩
theorem Reps.reverse {F : Fr} {H : Hp} : ∀ {ds : List D} {vs : List V}, Reps F H ds vs → Reps F H ds.reverse vs.reverse
  | [], vs, h => by
    rw [show vs = [] from h]
    rfl
  | d :: ds, _, ⟨v, r, e, h1, h2⟩ => by
    subst e
    rw [List.reverse_cons, List.reverse_cons]
    exact h2.reverse.append (.one h1)
theorem pe_revF {a : Ex} {x : Expr} {k : Nat} {p1 p2 p3 pos : Pos} (ha : PE X x (evT C W c a)) : PE X (.Subscript x (.Slice none none (some (.UnaryOp .USub (.Constant (.int 1) k p1) p2)) p3) pos) (evT C W c (.rev a)) := by
  refine imp_e (pe_revL ha) fun σ H Q ⟨F, ρ, hs, hl, w⟩ => ?_
  rw [ev] at w
  refine ⟨F, ρ, hs, hl, (Aft.bind w).mono fun F1 H1 d v x1 s1 r1 q1 => ?_⟩
  cases hi : items F1.st d with
  | none => rw [hi] at q1; exact q1.elim
  | some ds =>
    rw [hi] at q1
    obtain ⟨a, vs, ea, ha, rs⟩ := items_rep s1 r1 hi
    exact ⟨a, vs, ea, SqL.of ha, fun p hp => q1 F1 _ _ rfl (Ext.fresh F1 _ hp) (s1.fresh _ hp) (Rep.newL s1 hp rs.reverse)⟩
/-! ### a[:n:-1] -/
theorem rvb_range (m n : Nat) : sliceRange ((m : Int) - 1) (max (-1) (min (n : Int) ((m : Int) - 1))) (-1) = ((List.range m).drop (n + 1)).reverse := by
  have e0 : sliceRange ((m : Int) - 1) (max (-1) (min (n : Int) ((m : Int) - 1))) (-1) = ((List.range m).map fun k => m - 1 - k).take (m - (n + 1)) := by
    unfold sliceRange
    have h1 : ¬ ((-1 : Int) > 0) := by decide
    have h2 : (if (m : Int) - 1 > max (-1) (min (n : Int) ((m : Int) - 1)) then ((m : Int) - 1 - max (-1) (min (n : Int) ((m : Int) - 1)) - -1 - 1) / (- -1) else 0).toNat = m - (n + 1) := by
      rw [show (- -1 : Int) = 1 by decide, Int.ediv_one]
      split <;> omega
    simp only [h1, if_false, h2]
    rw [← List.map_take, List.take_range, Nat.min_eq_left (Nat.sub_le _ _)]
    apply List.map_congr_left
    intro k hk
    have := List.mem_range.mp hk
    omega
  rw [e0, PySem.W.krv_range, List.take_reverse, List.length_range]
  by_cases h : n + 1 ≤ m
  · rw [Nat.sub_sub_self h]
  · have e1 : m - (m - (n + 1)) = m := by omega
    rw [e1, List.drop_of_length_le (i := m) (by rw [List.length_range]; exact Nat.le_refl _), List.drop_of_length_le (i := n + 1) (by rw [List.length_range]; omega)]
theorem filterMap_drop {α β : Type} {f : α → Option β} : ∀ (l : List α) (k : Nat), (∀ x ∈ l, (f x).isSome = true) → (l.drop k).filterMap f = (l.filterMap f).drop k
  | _, 0, _ => rfl
  | [], k + 1, _ => rfl
  | x :: l, k + 1, h => by
    obtain ⟨y, e⟩ := Option.isSome_iff_exists.mp (h x List.mem_cons_self)
    rw [List.drop_succ_cons, List.filterMap_cons_some e, List.drop_succ_cons]
    exact filterMap_drop l k fun z hz => h z (List.mem_cons_of_mem _ hz)
theorem rvb_pick (items : Array Value) (n : Nat) : slicePick items none (some (n : Int)) (some (-1)) = ((items.toList.drop (n + 1)).reverse).toArray := by
  unfold slicePick
  have e : sliceBounds none (some (n : Int)) (some (-1)) items.size = ((items.size : Int) - 1, max (-1) (min (n : Int) ((items.size : Int) - 1)), -1) := by
    have h0 : ¬ ((n : Int) < 0) := by omega
    have h1 : ¬ ((-1 : Int) > 0) := by decide
    simp [sliceBounds, h0]
  rw [e]
  show ((sliceRange ((items.size : Int) - 1) _ (-1)).filterMap (items[·]?)).toArray = _
  rw [rvb_range, List.filterMap_reverse, filterMap_drop _ _ (fun x hx => by
    have := List.mem_range.mp hx
    simp [this]), PySem.W.krv_all]
theorem Vals.drop {xs : List V} {us : List Value} (r : Vals xs us) : ∀ k, Vals (xs.drop k) (us.drop k) := by
  induction r with
  | nil => intro k; rw [List.drop_nil, List.drop_nil]; exact .nil
  | cons a r ih =>
    intro k
    cases k with
    | zero => exact .cons a r
    | succ k => exact ih k
def tRvb (K : PySem.W.Frag) (n : Nat) (te : TE) : TE := fun σ H Q => te σ H fun x H1 => ∃ a xs, x = .ref a ∧ SqL K H1 a xs ∧ ∀ p, H1 p = none → Q (.ref p) (upd H1 p (.lst (xs.drop (n + 1)).reverse))
theorem pe_rvb {X : Cx} {e : Expr} {te : TE} {j k n : Nat} {p0 p1 p2 p3 pos : Pos} (he : PE X e te) : PE X (.Subscript e (.Slice none (some (.Constant (.int (.ofNat n)) j p0)) (some (.UnaryOp .USub (.Constant (.int 1) k p1) p2)) p3) pos) (tRvb X.K n te) := by
  refine ⟨fun pins s σ H Q I h => PyProof.Rows.Subscript_ (thn (he.run pins s σ H _ I h) fun v s1 ⟨x, H1, I1, r1, a, xs, ex, hx, q⟩ => ?_)⟩
  subst ex
  cases r1
  have hhi : PO X (some (.Constant (.int (.ofNat n)) j p0)) (tPart (tC (.int (.ofNat n)))) := po_some pe_int
  have hst : PO X (some (.UnaryOp .USub (.Constant (.int 1) k p1) p2)) (tPart (tUn (rU fun i => .int (-i)) (tC (.int 1)))) := po_some (pe_un un_neg pe_int)
  refine wpAny_Slice (thn (po_none.run pins s1 σ H1 (fun o H2 => o = none ∧ H2 = H1) I1 ⟨rfl, rfl⟩) fun vl s2 ⟨l, H2, I2, pl, el, e2⟩ => ?_)
  subst el e2
  refine thn (hhi.run pins s2 σ H2 (fun o H3 => o = some (.ofNat n) ∧ H3 = H2) I2 ⟨_, rfl, rfl, rfl⟩) fun vu s3 ⟨u, H3, I3, pu, eu, e3⟩ => ?_
  subst eu e3
  refine thn (hst.run pins s3 σ H3 (fun o H4 => o = some (-1) ∧ H4 = H3) I3 ⟨1, rfl, -1, rfl, rfl, rfl⟩) fun vs s4 ⟨o, H4, I4, ps, eo, e4⟩ => ?_
  subst eo e4
  have I5 : L2.Inv X pins σ H4 { s4 with heap := s4.heap.push { cls := .type "slice", data := .fields #[vl, vu, vs] } } := I4.kept (t' := s4.toks) fun b ob q => Heap.get?_push_of_some _ q
  obtain ⟨its, r, ht, hz⟩ := I5.list hx
  have hlen := r.length
  refine PyProof.Rows.tail_any (ops := [.ref a, .ref s4.heap.objs.size]) ht.isList.typeIs (PySem.slot_list_getitem.lookup) ?_ (by with_unfolding_all rfl)
  refine wpAny_getItem_list_slice ht.isList (Heap.IsSliceOf.new _ vl vu vs) pl pu ps (by decide) ?_ (by rw [List.size_toArray]; omega)
  have ep := rvb_pick its.toArray n
  rw [show (some (Int.ofNat n)) = some (n : Int) from rfl, ep]
  refine ⟨.ref _, _, I5.laid (t' := s4.toks) (o := .lst (xs.drop (n + 1)).reverse) (fun b ob q => Heap.get?_push_of_some _ q) (Nat.le_refl _) ?_, rfl, q _ (I5.hok.fresh (Nat.le_refl _))⟩
  exact ⟨by rw [List.length_reverse, List.length_drop]; omega, _, 0, (Vals.drop r (n + 1)).reverse, Heap.get?_push_size _ rfl⟩
theorem pe_rvbF {a : Ex} {x : Expr} {j k n : Nat} {p0 p1 p2 p3 pos : Pos} (ha : PE X x (evT C W c a)) : PE X (.Subscript x (.Slice none (some (.Constant (.int (.ofNat n)) j p0)) (some (.UnaryOp .USub (.Constant (.int 1) k p1) p2)) p3) pos) (evT C W c (.rvb a n)) := by
  refine imp_e (pe_rvb ha) fun σ H Q ⟨F, ρ, hs, hl, w⟩ => ?_
  rw [ev] at w
  refine ⟨F, ρ, hs, hl, (Aft.bind w).mono fun F1 H1 d v x1 s1 r1 q1 => ?_⟩
  cases hi : items F1.st d with
  | none => rw [hi] at q1; exact q1.elim
  | some ds =>
    rw [hi] at q1
    obtain ⟨a, vs, ea, ha, rs⟩ := items_rep s1 r1 hi
    exact ⟨a, vs, ea, SqL.of ha, fun p hp => q1 F1 _ _ rfl (Ext.fresh F1 _ hp) (s1.fresh _ hp) (Rep.newL s1 hp (Reps.drop (n + 1) rs).reverse)⟩
/-! ### displays -/
theorem pe_lstF {es : Exs} {xs : List Expr} {p : Pos} (h : PA X xs (evsT C W c es)) : PE X (.List xs p) (evT C W c (.lst es)) := by
  refine imp_e (pe_lst h) fun σ H Q ⟨F, ρ, hs, hl, w⟩ => ?_
  rw [ev] at w
  refine ⟨F, ρ, hs, hl, (Aft.bind w).mono fun F1 H1 ds vs x1 s1 r1 q1 => ?_⟩
  split at q1
  · rename_i hlen
    rw [line_eq, r1.length] at hlen
    exact ⟨hlen, fun p hp => q1 F1 _ _ rfl (Ext.fresh F1 _ hp) (s1.fresh _ hp) (Rep.newL s1 hp r1)⟩
  · exact q1.elim
theorem pe_tupF {es : Exs} {xs : List Expr} {k : Nat} {p : Pos} (h : PA X xs (evsT C W c es)) : PE X (.Tuple xs k p) (evT C W c (.tup es)) := by
  refine imp_e (pe_tup h) fun σ H Q ⟨F, ρ, hs, hl, w⟩ => ?_
  rw [ev] at w
  refine ⟨F, ρ, hs, hl, (Aft.bind w).mono fun F1 H1 ds vs x1 s1 r1 q1 => ?_⟩
  split at q1
  · rename_i hlen
    rw [line_eq, r1.length] at hlen
    exact ⟨hlen, fun p hp => q1 F1 _ _ rfl (Ext.fresh F1 _ hp) (s1.fresh _ hp) (Rep.newT s1 hp r1)⟩
  · exact q1.elim
theorem pe_dic0F {p : Pos} : PE X (.Dict [] [] p) (evT C W c .dic0) := by
  refine imp_e pe_dnewK fun σ H Q ⟨F, ρ, hs, hl, w⟩ => ?_
  rw [ev] at w
  exact fun p hp => w F _ _ rfl (Ext.fresh F _ hp) (hs.fresh _ hp) ⟨p, [], rfl, hs.nun hp, upd_same, rfl⟩
end
end MP
end
section
set_option maxRecDepth 100000
set_option maxHeartbeats 4000000
/-! MPSnd7: targets, what is walked. -/
namespace MP
open PySem L2
variable [Glo]
/-! ### slots -/
theorem wipe_get {σ : L2.St} {j : Nat} : ∀ vs : List Nat, (L2.wipe σ vs)[j]? = if j ∈ vs then (σ[j]?).map fun _ => none else σ[j]?
  | [] => by simp [L2.wipe]
  | v :: vs => by
    show ((L2.wipe σ vs).set v none)[j]? = _
    rw [List.getElem?_set, wipe_get vs, wipe_length]
    by_cases h : v = j
    · subst h
      by_cases hl : v < σ.length
      · simp [hl]
      · have e : σ[v]? = none := List.getElem?_eq_none (Nat.le_of_not_lt hl)
        simp [hl, e]
    · have h' : ¬ j = v := fun e => h e.symm
      simp [h, h']
theorem wipeD_get {ρ : Sl} {j : Nat} : ∀ vs : List Nat, (MP.wipe ρ vs)[j]? = if j ∈ vs then (ρ[j]?).map fun _ => none else ρ[j]?
  | [] => by simp [MP.wipe]
  | v :: vs => by
    have hlen : ∀ vs : List Nat, (MP.wipe ρ vs).length = ρ.length := fun vs => by
      induction vs with
      | nil => rfl
      | cons v vs ih => show ((MP.wipe ρ vs).set v none).length = _; rw [List.length_set, ih]
    show ((MP.wipe ρ vs).set v none)[j]? = _
    rw [List.getElem?_set, wipeD_get vs, hlen]
    by_cases h : v = j
    · subst h
      by_cases hl : v < ρ.length
      · simp [hl]
      · have e : ρ[v]? = none := List.getElem?_eq_none (Nat.le_of_not_lt hl)
        simp [hl, e]
    · have h' : ¬ j = v := fun e => h e.symm
      simp [h, h']
theorem wipeD_len {ρ : Sl} : ∀ vs : List Nat, (MP.wipe ρ vs).length = ρ.length
  | [] => rfl
  | v :: vs => by
    show ((MP.wipe ρ vs).set v none).length = _
    rw [List.length_set, wipeD_len vs]
theorem wipe_set {σ : L2.St} {i : Nat} {x : Option V} {own : List Nat} (h : i ∈ own) : L2.wipe (σ.set i x) own = L2.wipe σ own := by
  apply List.ext_getElem?
  intro j
  rw [wipe_get, wipe_get, List.getElem?_set]
  by_cases e : i = j
  · subst e
    by_cases hl : i < σ.length
    · simp [h, hl]
    · have e : σ[i]? = none := List.getElem?_eq_none (Nat.le_of_not_lt hl)
      simp [h, hl, e]
  · simp [e]
def setAll : L2.St → List Nat → List V → L2.St
  | σ, i :: is, v :: vs => setAll (σ.set i (some v)) is vs
  | σ, _, _ => σ
theorem wipe_setAll {own : List Nat} : ∀ (is : List Nat) (vs : List V) (σ : L2.St), (∀ i ∈ is, i ∈ own) → L2.wipe (setAll σ is vs) own = L2.wipe σ own
  | [], _, _, _ => rfl
  | _ :: _, [], _, _ => rfl
  | i :: is, v :: vs, σ, h => by
    show L2.wipe (setAll (σ.set i (some v)) is vs) own = _
    rw [wipe_setAll is vs _ fun j hj => h j (List.mem_cons_of_mem _ hj), wipe_set (h i List.mem_cons_self)]
section
variable {F : Fr} {H : Hp}
theorem Slo.wipe {ρ : Sl} {σ : L2.St} (h : Slo F H ρ σ) (vs : List Nat) : Slo F H (MP.wipe ρ vs) (L2.wipe σ vs) := by
  refine ⟨by rw [wipeD_len, wipe_length]; exact h.1, fun i d e => ?_⟩
  rw [wipeD_get] at e
  rw [wipe_get]
  by_cases hi : i ∈ vs
  · rw [if_pos hi] at e
    cases q : ρ[i]? with
    | none => rw [q] at e; cases e
    | some x => rw [q] at e; cases e
  · rw [if_neg hi] at e ⊢
    exact h.2 i d e
theorem Slo.set {ρ : Sl} {σ : L2.St} {d : D} {v : V} (h : Slo F H ρ σ) (i : Nat) (r : Rep F H d v) : Slo F H (ρ.set i (some d)) (σ.set i (some v)) := by
  refine ⟨by rw [List.length_set, List.length_set]; exact h.1, fun j e q => ?_⟩
  rw [List.getElem?_set] at q
  rw [List.getElem?_set]
  by_cases hj : i = j
  · subst hj
    rw [if_pos rfl] at q
    split at q
    · rename_i hl
      cases q
      rw [if_pos rfl, if_pos (by rw [← h.1]; exact hl)]
      exact ⟨v, rfl, r⟩
    · cases q
  · rw [if_neg hj] at q ⊢
    exact h.2 j e q
theorem Slo.asg1 : ∀ {is : List Nat} {ds : List D} {vs : List V} {ρ ρ1 : Sl} {σ : L2.St}, Slo F H ρ σ → Reps F H ds vs → MP.asg1 is ds ρ = some ρ1 → vs.length = is.length ∧ Slo F H ρ1 (setAll σ is vs)
  | [], [], vs, ρ, ρ1, σ, h, r, e => by
    cases e
    rw [show vs = [] from r]
    exact ⟨rfl, h⟩
  | [], _ :: _, _, _, _, _, _, _, e => by cases e
  | _ :: _, [], _, _, _, _, _, _, e => by cases e
  | i :: is, d :: ds, _, ρ, ρ1, σ, h, ⟨v, r, e1, h1, h2⟩, e => by
    subst e1
    have e : (if i < ρ.length then MP.asg1 is ds (ρ.set i (some d)) else none) = some ρ1 := e
    split at e
    · obtain ⟨q1, q2⟩ := (h.set i h1).asg1 h2 e
      exact ⟨congrArg Nat.succ q1, q2⟩
    · cases e
end
/-! ### targets -/
structure SX (se : SE) (X : Cx) : Prop where
  N : X.N = se.N
  nd : se.N.Nodup
  sc : X.env.scope = se.sc
  fn : ∀ x, se.fn x = true → X.fn x = true
  calm : X.calm = true
section
variable {se : SE} {X : Cx}
theorem locB_ok (S : SX se X) {x : Str} (h : locB se x = true) : Loc X.env.scope x ∧ (X.fn x = true ∨ X.env.scope.names.lookup x = some .local) := by
  unfold locB at h
  rw [← S.sc] at h
  split at h
  · rename_i e
    exact ⟨.inl e, .inr e⟩
  · rename_i e
    exact ⟨.inr e, .inl (S.fn x h)⟩
  · cases h
def gNs (is : List Nat) : TGs := fun vs σ H Q => vs.length = is.length ∧ Q (setAll σ is vs) H
theorem pgs_F (S : SX se X) : ∀ {is : List Nat} {xs : List Expr}, okNames se is xs = true → PGs X xs (gNs is) ∧ (assignEach xs X.env).length = is.length ∧ (assignEach xs X.env).findIdx? (·.1) = none
  | [], [], _ => ⟨⟨fun pins s σ H vs us Q I r ⟨h1, h2⟩ => pgs_nil.run pins s σ H vs us Q I r ⟨List.eq_nil_of_length_eq_zero h1, by
      have e : vs = [] := List.eq_nil_of_length_eq_zero h1
      subst e
      exact h2⟩⟩, rfl, rfl⟩
  | [], _ :: _, h => by cases h
  | _ :: _, [], h => by cases h
  | i :: is, x :: xs, h => by
    have h : ((match asName x with
      | some n => decide (se.N[i]? = some n) && locB se n
      | none => false) && okNames se is xs) = true := h
    rw [Bool.and_eq_true] at h
    obtain ⟨h1, h2⟩ := h
    cases e : asName x with
    | none => rw [e] at h1; cases h1
    | some n =>
      rw [e] at h1
      simp only [Bool.and_eq_true, decide_eq_true_eq] at h1
      obtain ⟨p, rfl⟩ := asName_eq e
      obtain ⟨q1, q2, q3⟩ := pgs_F S h2
      obtain ⟨l1, l2⟩ := locB_ok S h1.2
      refine ⟨⟨fun pins s σ H vs us Q I r ⟨w1, w2⟩ => (pgs_cons (pg_name (X := X) (i := i) (by rw [S.N]; exact S.nd) (by rw [S.N]; exact h1.1) l1 l2) q1 rfl).run pins s σ H vs us Q I r ?_⟩, ?_, ?_⟩
      · cases vs with
        | nil => cases w1
        | cons v vs => exact ⟨v, vs, rfl, Nat.succ.inj w1, w2⟩
      · show (assignEach xs X.env).length + 1 = _
        rw [q2]
        rfl
      · show ((false, assign (.Name n p) X.env) :: assignEach xs X.env).findIdx? (·.1) = none
        rw [List.findIdx?_cons, q3]
        rfl
/-- a target's reading -/
def gF (tg : List Nat) (tp : Bool) : TG := fun x σ H Q => ∃ F ρ d ρ1, Sto F H ∧ Slo F H ρ σ ∧ Rep F H d x ∧ asgT tg tp d ρ = some ρ1 ∧ ∀ σ1, Slo F H ρ1 σ1 → (∀ own : List Nat, (∀ i ∈ tg, i ∈ own) → L2.wipe σ1 own = L2.wipe σ own) → Q σ1 H
theorem pg_F (S : SX se X) {tg : List Nat} {tp : Bool} {x : Expr} (h : okG se tg tp x = true) : PG X x (gF tg tp) := by
  unfold okG at h
  cases tp with
  | true =>
    rw [if_pos rfl] at h
    cases e : asTup x with
    | none => rw [e] at h; cases h
    | some xs =>
      rw [e] at h
      obtain ⟨k, p, rfl⟩ := asTup_eq e
      obtain ⟨q1, q2, q3⟩ := pgs_F S h
      refine ⟨fun pins s σ H v u Q I r ⟨F, ρ, d, ρ1, hs, hl, rd, ea, q⟩ => (pg_tup (n := tg.length) S.calm q1 q2 q3).run pins s σ H v u Q I r ?_⟩
      cases d with
      | tup ds =>
        obtain ⟨a, vs, ev, _, ha, rs⟩ := rd
        have ea : asg1 tg ds ρ = some ρ1 := ea
        obtain ⟨z1, z2⟩ := hl.asg1 rs ea
        exact ⟨a, vs, ev, SqT.of ha, z1, z1, q _ z2 fun own ho => wipe_setAll _ _ _ ho⟩
      | _ => cases ea
  | false =>
    rw [if_neg Bool.false_ne_true, Bool.and_eq_true, decide_eq_true_eq] at h
    obtain ⟨h, hl1⟩ := h
    cases tg with
    | nil => cases h
    | cons i is =>
      cases is with
      | cons _ _ => cases hl1
      | nil =>
        have h9 : ((match asName x with
          | some n => decide (se.N[i]? = some n) && locB se n
          | none => false) && true) = true := h
        cases e : asName x with
        | none => rw [e] at h9; cases h9
        | some n =>
          rw [e] at h9
          simp only [Bool.and_eq_true, decide_eq_true_eq, and_true] at h9
          obtain ⟨p, rfl⟩ := asName_eq e
          obtain ⟨l1, l2⟩ := locB_ok S h9.2
          refine ⟨fun pins s σ H v u Q I r ⟨F, ρ, d, ρ1, hs, hl, rd, ea, q⟩ => (pg_name (X := X) (i := i) (by rw [S.N]; exact S.nd) (by rw [S.N]; exact h9.1) l1 l2).run pins s σ H v u Q I r ?_⟩
          have ea : asg1 [i] [d] ρ = some ρ1 := ea
          obtain ⟨z1, z2⟩ := hl.asg1 (.one rd) ea
          exact q _ z2 fun own ho => wipe_setAll [i] [v] _ ho
end
end MP
end
section
set_option maxRecDepth 100000
set_option maxHeartbeats 4000000
/-! MPSnd8: what is walked. -/
namespace MP
open PySem L2
variable [Glo]
/-- J walks w, as long as it stands still -/
def WR (F : Fr) (H : Hp) (w : Walk) (J : It) : Prop := ∀ F' H', Ext F H F' H' → Sto F' H' → still w F'.st = true →
  (∀ (i : Nat) (d : D), w.its[i]? = some d → J.go i H' ∧ ∀ x H'', J.yld i H' x H'' → Ext F' H' F' H'' ∧ Sto F' H'' ∧ Rep F' H'' d x) ∧ J.stop w.its.length H'
def evwT (C : Nat → Addr) (W : WX) (c : Cxt) (s : Sr) : TI := fun σ H R => ∃ F ρ, Sto F H ∧ Slo F H ρ σ ∧ Aft WR C (fun cl d H' => W cl d σ H') F H (evw c s ρ F.st) fun _ H' _ J => R J H'
section
variable {C : Nat → Addr} {W : WX} {c : Cxt} {X : Cx} {F : Fr} {H : Hp}
theorem sqL_inj {K : PySem.W.Frag} {H : Hp} {a : Addr} {xs ys : List V} (h : Rd H a (.lst xs)) (h' : Rd H a (.lst ys)) : xs = ys := by
  rcases h with h | ⟨o, h⟩ <;> rcases h' with h' | ⟨o', h'⟩ <;> (rw [h] at h'; cases h'; try rfl)
/-- a list that stands: its walk -/
theorem wr_list {w : Walk} {a : Addr} (hr : ∀ F' H', Ext F H F' H' → Sto F' H' → still w F'.st = true → ∃ vs, Rd H' a (.lst vs) ∧ Reps F' H' w.its vs) : WR F H w (Itl X.K a) := by
  intro F' H' x s st
  obtain ⟨vs, hv, rs⟩ := hr F' H' x s st
  refine ⟨fun i d hd => ?_, vs, .inl hv, by rw [rs.length]; exact Nat.le_refl _⟩
  obtain ⟨v, e, r⟩ := rs.get hd
  refine ⟨⟨vs, v, .inl hv, e⟩, fun y H'' ⟨e1, e2⟩ => ?_⟩
  subst e1
  have q := e2 vs (.inl hv)
  rw [e] at q
  cases q
  exact ⟨Ext.refl _ _, s, r⟩
theorem pi_lisF {e : Ex} {tg x : Expr} (h : PE X x (evT C W c e)) : PI X tg x (evwT C W c (.lis e)) := by
  refine ⟨fun pins s σ H Rr I ⟨F, ρ, hs, hl, w⟩ => (pi_list h).run pins s σ H Rr I ?_⟩
  rw [evw] at w
  refine ⟨F, ρ, hs, hl, (Aft.bind w).mono fun F1 H1 d v x1 s1 r1 q1 => ?_⟩
  cases d with
  | lst ds =>
    obtain ⟨a, vs, ea, hu, ha, rs⟩ := r1
    refine ⟨a, ea, ⟨vs, SqL.of ha⟩, q1 F1 H1 _ rfl (Ext.refl F1 H1) s1 (wr_list fun F' H' x s _ => ⟨vs, .inl (x.stay ha hu), rs.ext x⟩)⟩
  | scr ns =>
    obtain ⟨a, o, ea, hu, ha⟩ := r1
    refine ⟨a, ea, ⟨_, .inl (.inr ⟨o, ha⟩)⟩, q1 F1 H1 _ rfl (Ext.refl F1 H1) s1 (wr_list fun F' H' x s _ => ⟨_, .inr ⟨o, x.stay ha hu⟩, reps_ints ns⟩)⟩
  | cel k =>
    obtain ⟨ea, hk⟩ := r1
    have q1 : Aft WR C _ F1 H1 (match F1.st[k]? with
      | some (.lst ds) => R.ok { its := ds, cell := some k } F1.st
      | _ => .bad) _ := q1
    split at q1
    · rename_i ds hd
      obtain ⟨vs, ha, rs⟩ := s1.ce k _ hd
      refine ⟨_, ea, ⟨vs, SqL.of ha⟩, q1 F1 H1 _ rfl (Ext.refl F1 H1) s1 (wr_list fun F' H' x s st => ?_)⟩
      have st : (match F'.st[k]? with
        | some (.lst es) => sameL es ds
        | _ => false) = true := st
      split at st
      · rename_i es he
        rw [sameL_eq st] at he
        obtain ⟨us, hb, rs'⟩ := s.ce k _ he
        rw [x.al k hk] at hb
        exact ⟨us, .inl hb, rs'⟩
      · cases st
    · exact q1.elim
  | _ => exact q1.elim
theorem pi_tplF {e : Ex} {tg x : Expr} (h : PE X x (evT C W c e)) : PI X tg x (evwT C W c (.tpl e)) := by
  refine ⟨fun pins s σ H Rr I ⟨F, ρ, hs, hl, w⟩ => (pi_tup h).run pins s σ H Rr I ?_⟩
  rw [evw] at w
  refine ⟨F, ρ, hs, hl, (Aft.bind w).mono fun F1 H1 d v x1 s1 r1 q1 => ?_⟩
  cases d with
  | tup ds =>
    obtain ⟨a, vs, ea, hu, ha, rs⟩ := r1
    refine ⟨a, ea, ⟨vs, SqT.of ha⟩, q1 F1 H1 _ rfl (Ext.refl F1 H1) s1 fun F' H' x s st => ?_⟩
    have hb := x.stay ha hu
    have rs' := rs.ext x
    refine ⟨fun i d hd => ?_, vs, .inl (.inl hb), by rw [rs'.length]; exact Nat.le_refl _⟩
    obtain ⟨v, e, r⟩ := rs'.get hd
    refine ⟨⟨vs, v, .inl (.inl hb), e⟩, fun y H'' ⟨e1, e2⟩ => ?_⟩
    subst e1
    have q := e2 vs (.inl (.inl hb))
    rw [e] at q
    cases q
    exact ⟨Ext.refl _ _, s, r⟩
  | _ => exact q1.elim
theorem pi_txtF {e : Ex} {tg x : Expr} (h : PE X x (evT C W c e)) : PI X tg x (evwT C W c (.txt e)) := by
  refine ⟨fun pins s σ H Rr I ⟨F, ρ, hs, hl, w⟩ => (pi_str h).run pins s σ H Rr I ?_⟩
  rw [evw] at w
  refine ⟨F, ρ, hs, hl, (Aft.bind w).mono fun F1 H1 d v x1 s1 r1 q1 => ?_⟩
  cases d with
  | str z =>
    refine ⟨z, r1, q1 F1 H1 _ rfl (Ext.refl F1 H1) s1 fun F' H' x s st => ?_⟩
    refine ⟨fun i d hd => ?_, ?_⟩
    · have hd : (z.cps.toList.map fun k => D.str ⟨#[k]⟩)[i]? = some d := hd
      rw [List.getElem?_map] at hd
      cases q : z.cps.toList[i]? with
      | none => rw [q] at hd; cases hd
      | some k =>
        rw [q] at hd
        cases hd
        have hi := (List.getElem?_eq_some_iff.mp q).1
        refine ⟨(show i < z.cps.size by simpa using hi), fun y H'' ⟨e1, k', e2, e3⟩ => ?_⟩
        subst e1 e3
        have e2 : z.cps[i]? = some k' := e2
        rw [← Array.getElem?_toList, q] at e2
        cases e2
        exact ⟨Ext.refl _ _, s, rfl⟩
    · show z.cps.size ≤ (z.cps.toList.map fun k => D.str ⟨#[k]⟩).length
      simp
  | _ => exact q1.elim
theorem wr_range {lo : Int} {n : Nat} : WR F H { its := (List.range n).map fun (k : Nat) => D.int (lo + (k : Int)) } (Itr lo n) := by
  intro F' H' x s st
  refine ⟨fun i d hd => ?_, ?_⟩
  · have hd : ((List.range n).map fun (k : Nat) => D.int (lo + (k : Int)))[i]? = some d := hd
    rw [List.getElem?_map] at hd
    cases q : (List.range n)[i]? with
    | none => rw [q] at hd; cases hd
    | some k =>
      rw [q] at hd
      cases hd
      obtain ⟨hi, e⟩ := List.getElem?_eq_some_iff.mp q
      rw [List.getElem_range] at e
      subst e
      refine ⟨(show i < n by simpa using hi), fun y H'' ⟨e1, e2⟩ => ?_⟩
      subst e1 e2
      exact ⟨Ext.refl _ _, s, rfl⟩
  · show n ≤ ((List.range n).map fun (k : Nat) => D.int (lo + (k : Int))).length
    simp
theorem pi_rg1F {e : Ex} {tg x : Expr} {p pos : Pos} (hg : Gl X "range") (hm : X.mg "range" = none) (hst : starEach [x] X.env = [(false, eval x X.env)]) (h : PA X [x] (evsT C W c (.cons e .nil))) : PI X tg (.Call (.Name "range" p) [x] [] pos) (evwT C W c (.rg1 e)) := by
  refine ⟨fun pins s σ H Rr I ⟨F, ρ, hs, hl, w⟩ => (pi_range1 hg hm h hst).run pins s σ H Rr I ?_⟩
  rw [evw] at w
  refine ⟨F, ρ, hs, hl, ?_⟩
  rw [evs]
  cases hr : ev c e ρ F.st with
  | ok d st =>
    rw [hr] at w
    rw [R.bind_ok] at w ⊢
    rw [evs, R.bind_ok]
    intro F' H' vs e1 x1 s1 r1
    obtain ⟨v, r, e2, r2, r3⟩ := r1
    subst e2
    cases d with
    | int n =>
      have w : Aft WR C _ F H (if (decide (-(2 ^ 62) ≤ n) && decide (n < 2 ^ 62)) = true then R.ok { its := (List.range n.toNat).map fun (k : Nat) => D.int (k : Int) } st else .bad) _ := w
      split at w
      · rename_i hn
        simp only [Bool.and_eq_true, decide_eq_true_eq] at hn
        refine ⟨n, by rw [show v = _ from r2, show r = [] from r3], hn.1, hn.2, ?_⟩
        refine w F' H' _ e1 x1 s1 ?_
        have z := @wr_range _ F' H' 0 n.toNat
        simp only [Int.zero_add] at z
        exact z
      · exact w.elim
    | _ => exact w.elim
  | exc k d st =>
    rw [hr] at w
    exact w
  | bad =>
    rw [hr] at w
    exact w
theorem evs2 {e f : Ex} {ρ : Sl} {st : Store} : evs c (.cons e (.cons f .nil)) ρ st = (ev c e ρ st).bind fun x st => (ev c f ρ st).bind fun y st => .ok [x, y] st := by
  rw [evs]
  congr
  funext x st
  rw [evs]
  rw [bind_assoc]
  congr
theorem evs1 {e : Ex} {ρ : Sl} {st : Store} : evs c (.cons e .nil) ρ st = (ev c e ρ st).bind fun x st => .ok [x] st := by
  rw [evs]
  congr
/-- two arguments, read -/
theorem args2 {α β : Type} {Rel : Fr → Hp → α → β → Prop} {e f : Ex} {F : Fr} {ρ : Sl} {σ : L2.St} {H : Hp} {g : D → D → Store → R α} {Q : Fr → Hp → α → β → Prop} (hs : Sto F H) (hl : Slo F H ρ σ)
    (h : Aft Rel C (fun cl d H' => W cl d σ H') F H ((ev c e ρ F.st).bind fun x st => (ev c f ρ st).bind fun y st => g x y st) Q) {R2 : List V → Hp → Prop}
    (k : ∀ F2 H2 x y vx vy, Ext F H F2 H2 → Sto F2 H2 → Rep F2 H2 x vx → Rep F2 H2 y vy → Aft Rel C (fun cl d H' => W cl d σ H') F2 H2 (g x y F2.st) Q → R2 [vx, vy] H2) : evsT C W c (.cons e (.cons f .nil)) σ H R2 := by
  refine ⟨F, ρ, hs, hl, ?_⟩
  rw [evs2]
  cases hr : ev c e ρ F.st with
  | ok d st =>
    rw [hr] at h
    rw [R.bind_ok] at h ⊢
    cases hq : ev c f ρ st with
    | ok d' st' =>
      rw [hq] at h
      rw [R.bind_ok] at h ⊢
      intro F' H' vs e1 x1 s1 ⟨v, r, e2, r1, u, r', e3, r2, e4⟩
      subst e2 e3
      rw [show r' = [] from e4]
      subst e1
      exact k F' H' d d' v u x1 s1 r1 r2 (Aft.later x1 h)
    | exc k d st => rw [hq] at h; exact h
    | bad => rw [hq] at h; exact h
  | exc k d st => rw [hr] at h; exact h
  | bad => rw [hr] at h; exact h
theorem args1 {α β : Type} {Rel : Fr → Hp → α → β → Prop} {e : Ex} {F : Fr} {ρ : Sl} {σ : L2.St} {H : Hp} {g : D → Store → R α} {Q : Fr → Hp → α → β → Prop} (hs : Sto F H) (hl : Slo F H ρ σ)
    (h : Aft Rel C (fun cl d H' => W cl d σ H') F H ((ev c e ρ F.st).bind fun x st => g x st) Q) {R2 : List V → Hp → Prop}
    (k : ∀ F2 H2 x vx, Ext F H F2 H2 → Sto F2 H2 → Rep F2 H2 x vx → Aft Rel C (fun cl d H' => W cl d σ H') F2 H2 (g x F2.st) Q → R2 [vx] H2) : evsT C W c (.cons e .nil) σ H R2 := by
  refine ⟨F, ρ, hs, hl, ?_⟩
  rw [evs1]
  cases hr : ev c e ρ F.st with
  | ok d st =>
    rw [hr] at h
    rw [R.bind_ok] at h ⊢
    intro F' H' vs e1 x1 s1 ⟨v, r, e2, r1, e4⟩
    subst e2
    rw [show r = [] from e4]
    subst e1
    exact k F' H' d v x1 s1 r1 (Aft.later x1 h)
  | exc k d st => rw [hr] at h; exact h
  | bad => rw [hr] at h; exact h
theorem pi_rg2F {e f : Ex} {tg x y : Expr} {p pos : Pos} (hg : Gl X "range") (hm : X.mg "range" = none) (hst : starEach [x, y] X.env = [(false, eval x X.env), (false, eval y X.env)]) (hst2 : starEach [y] X.env = [(false, eval y X.env)]) (h : PA X [x, y] (evsT C W c (.cons e (.cons f .nil)))) :
    PI X tg (.Call (.Name "range" p) [x, y] [] pos) (evwT C W c (.rg2 e f)) := by
  refine ⟨fun pins s σ H Rr I ⟨F, ρ, hs, hl, w⟩ => (pi_range2 hg hm h hst hst2).run pins s σ H Rr I ?_⟩
  rw [evw] at w
  refine args2 hs hl w fun F2 H2 x y vx vy x2 s2 r1 r2 q => ?_
  cases x with
  | int l =>
    cases y with
    | int h =>
      have q : Aft WR C _ F2 H2 (if (decide (-(2 ^ 62) ≤ l) && decide (l < 2 ^ 62) && decide (-(2 ^ 62) ≤ h) && decide (h < 2 ^ 62)) = true then R.ok { its := (List.range (h - l).toNat).map fun (k : Nat) => D.int (l + (k : Int)) } F2.st else .bad) _ := q
      split at q
      · rename_i hn
        simp only [Bool.and_eq_true, decide_eq_true_eq] at hn
        exact ⟨l, h, by rw [show vx = _ from r1, show vy = _ from r2], ⟨hn.1.1.1, hn.1.1.2, hn.1.2, hn.2⟩, q F2 H2 _ rfl (Ext.refl _ _) s2 wr_range⟩
      · exact q.elim
    | _ => exact q.elim
  | _ => exact q.elim
theorem pairs_get : ∀ {ds : List D} {n i : Nat}, (pairs n ds)[i]? = (ds[i]?).map fun d => D.tup [.int ((n + i : Nat) : Int), d]
  | [], n, i => by simp [pairs]
  | d :: ds, n, 0 => by simp [pairs]
  | d :: ds, n, i + 1 => by
    show (pairs (n + 1) ds)[i]? = _
    rw [pairs_get, show n + 1 + i = n + (i + 1) by omega]
    rfl
theorem pairs_len : ∀ {ds : List D} {n : Nat}, (pairs n ds).length = ds.length
  | [], _ => rfl
  | d :: ds, n => congrArg Nat.succ pairs_len
theorem pi_enuF {e : Ex} {x : Expr} {p pos tpos : Pos} {elts : List Expr} {kk : Nat} (hg : Gl X "enumerate") (hm : X.mg "enumerate" = none) (hst : starEach [x] X.env = [(false, eval x X.env)]) (h : PA X [x] (evsT C W c (.cons e .nil))) :
    PI X (.Tuple elts kk tpos) (.Call (.Name "enumerate" p) [x] [] pos) (evwT C W c (.enu e)) := by
  refine ⟨fun pins s σ H Rr I ⟨F, ρ, hs, hl, w⟩ => (pi_enum hg hm h hst).run pins s σ H Rr I ?_⟩
  rw [evw] at w
  refine args1 hs hl w fun F1 H1 d v x1 s1 r1 q1 => ?_
  cases d with
  | lst ds =>
    obtain ⟨a, vs, ea, hu, ha, rs⟩ := r1
    refine ⟨a, vs, by rw [ea], SqL.of ha, q1 F1 H1 _ rfl (Ext.refl F1 H1) s1 fun F' H' x s st => ?_⟩
    have hb := x.stay ha hu
    have rs' := rs.ext x
    refine ⟨fun i d hd => ?_, vs, .inl (.inl hb), by show vs.length ≤ (pairs 0 ds).length; rw [pairs_len, rs'.length]; exact Nat.le_refl _⟩
    have hd : (pairs 0 ds)[i]? = some d := hd
    rw [pairs_get] at hd
    cases q : ds[i]? with
    | none => rw [q] at hd; cases hd
    | some z =>
      rw [q] at hd
      cases hd
      obtain ⟨v, e, r⟩ := rs'.get q
      refine ⟨⟨vs, v, .inl (.inl hb), e⟩, fun y H'' ⟨T, y', e1, hT, e2, e3⟩ => ?_⟩
      subst e1 e2
      have q := e3 vs (.inl (.inl hb))
      rw [e] at q
      cases q
      refine ⟨Ext.fresh _ _ hT, s.fresh _ hT, Rep.newT s hT ⟨.int i, [v], rfl, ?_, v, [], rfl, r, rfl⟩⟩
      show V.int i = V.int ((0 + i : Nat) : Int)
      rw [Nat.zero_add]
  | _ => exact q1.elim
theorem pi_zipF {e f : Ex} {x y : Expr} {p pos tpos : Pos} {elts : List Expr} {kk : Nat} (hg : Gl X "zip") (hm : X.mg "zip" = none) (hst : starEach [x, y] X.env = (false, eval x X.env) :: starEach [y] X.env) (hpl : (backTo pos (starEach [y] X.env)).any (·.1) = false) (h : PA X [x, y] (evsT C W c (.cons e (.cons f .nil)))) :
    PI X (.Tuple elts kk tpos) (.Call (.Name "zip" p) [x, y] [] pos) (evwT C W c (.zip false e f)) := by
  refine ⟨fun pins s σ H Rr I ⟨F, ρ, hs, hl, w⟩ => (RZ.pi_zipA hg hm h hst hpl).run pins s σ H Rr I ?_⟩
  rw [evw] at w
  refine args2 hs hl w fun F1 H1 d1 d2 v1 v2 x1 s1 r1 r2 q1 => ?_
  cases d1 with
  | lst ds =>
    cases d2 with
    | lst es =>
      have q1 : Aft WR C _ F1 H1 (if ds.length = es.length then R.ok { its := (ds.zip es).map fun p => D.tup [p.1, p.2] } F1.st else .bad) _ := q1
      split at q1
      · rename_i hlen
        obtain ⟨a, vs, ea, hu, ha, rs⟩ := r1
        obtain ⟨b, us, eb, hu2, hb, rt⟩ := r2
        refine ⟨a, b, vs, us, by rw [ea, eb], .inl ⟨SqL.of ha, SqL.of hb, q1 F1 H1 _ rfl (Ext.refl F1 H1) s1 fun F' H' x s st => ?_⟩⟩
        have ha' := x.stay ha hu
        have hb' := x.stay hb hu2
        have rs' := rs.ext x
        have rt' := rt.ext x
        refine ⟨fun i d hd => ?_, vs, us, .inl (.inl ha'), .inl (.inl hb'), .inl ?_⟩
        · have hd : ((ds.zip es).map fun p => D.tup [p.1, p.2])[i]? = some d := hd
          rw [List.getElem?_map] at hd
          cases q : (ds.zip es)[i]? with
          | none => rw [q] at hd; cases hd
          | some z =>
            rw [q] at hd
            cases hd
            rw [List.getElem?_zip_eq_some] at q
            obtain ⟨v, e, r⟩ := rs'.get q.1
            obtain ⟨u, e', r'⟩ := rt'.get q.2
            refine ⟨⟨vs, us, v, u, .inl (.inl ha'), .inl (.inl hb'), e, e'⟩, fun y H'' ⟨T, y1, y2, e1, hT, e2, e3, e4⟩ => ?_⟩
            subst e1 e2
            have q1 := e3 vs (.inl (.inl ha'))
            rw [e] at q1
            cases q1
            have q2 := e4 us (.inl (.inl hb'))
            rw [e'] at q2
            cases q2
            exact ⟨Ext.fresh _ _ hT, s.fresh _ hT, Rep.newT s hT ⟨v, [u], rfl, r, u, [], rfl, r', rfl⟩⟩
        · show vs.length ≤ ((ds.zip es).map fun p => D.tup [p.1, p.2]).length
          rw [List.length_map, List.length_zip, ← hlen, rs'.length]
          omega
      · exact q1.elim
    | _ => exact q1.elim
  | tup ds =>
    cases d2 with
    | tup es =>
      have q1 : Aft WR C _ F1 H1 (if ds.length = es.length then R.ok { its := (ds.zip es).map fun p => D.tup [p.1, p.2] } F1.st else .bad) _ := q1
      split at q1
      · rename_i hlen
        obtain ⟨a, vs, ea, hu, ha, rs⟩ := r1
        obtain ⟨b, us, eb, hu2, hb, rt⟩ := r2
        refine ⟨a, b, vs, us, by rw [ea, eb], .inr ⟨SqT.of ha, SqT.of hb, q1 F1 H1 _ rfl (Ext.refl F1 H1) s1 fun F' H' x s st => ?_⟩⟩
        have ha' := x.stay ha hu
        have hb' := x.stay hb hu2
        have rs' := rs.ext x
        have rt' := rt.ext x
        refine ⟨fun i d hd => ?_, vs, us, .inl (.inl ha'), .inl (.inl hb'), .inl ?_⟩
        · have hd : ((ds.zip es).map fun p => D.tup [p.1, p.2])[i]? = some d := hd
          rw [List.getElem?_map] at hd
          cases q : (ds.zip es)[i]? with
          | none => rw [q] at hd; cases hd
          | some z =>
            rw [q] at hd
            cases hd
            rw [List.getElem?_zip_eq_some] at q
            obtain ⟨v, e, r⟩ := rs'.get q.1
            obtain ⟨u, e', r'⟩ := rt'.get q.2
            refine ⟨⟨vs, us, v, u, .inl (.inl ha'), .inl (.inl hb'), e, e'⟩, fun y H'' ⟨T, y1, y2, e1, hT, e2, e3, e4⟩ => ?_⟩
            subst e1 e2
            have q1 := e3 vs (.inl (.inl ha'))
            rw [e] at q1
            cases q1
            have q2 := e4 us (.inl (.inl hb'))
            rw [e'] at q2
            cases q2
            exact ⟨Ext.fresh _ _ hT, s.fresh _ hT, Rep.newT s hT ⟨v, [u], rfl, r, u, [], rfl, r', rfl⟩⟩
        · show vs.length ≤ ((ds.zip es).map fun p => D.tup [p.1, p.2]).length
          rw [List.length_map, List.length_zip, ← hlen, rs'.length]
          omega
      · exact q1.elim
    | _ => exact q1.elim
  | _ => exact q1.elim
end
end MP
end
section
set_option maxRecDepth 100000
set_option maxHeartbeats 4000000
/-! MPSnd9: list comprehensions. -/
namespace MP
open PySem L2
variable [Glo]
def WF : WX := fun _ _ _ _ => False
def evtT (C : Nat → Addr) (W : WX) (c : Cxt) (o : Ox) : TT := fun σ H Q => ∃ F ρ, Sto F H ∧ Slo F H ρ σ ∧ Aft Eqr C (fun cl d H' => W cl d σ H') F H (evt c o ρ F.st) fun _ H' _ b => Q b H'
section
variable {C : Nat → Addr} {W : WX} {c : Cxt} {X : Cx}
theorem pts_non : PTs X [] (evtT C W c .non) := ⟨fun pins s σ H Q I ⟨F, ρ, hs, hl, w⟩ => pts_nil.run pins s σ H Q I (by
  rw [evt] at w
  exact w.ok_now hs rfl)⟩
theorem pts_som {e : Ex} {x : Expr} (h : PT X x (evTT C W c e)) : PTs X [x] (evtT C W c (.som e)) := ⟨fun pins s σ H Q I ⟨F, ρ, hs, hl, w⟩ => (pts_one h).run pins s σ H Q I (by
  rw [evt] at w
  exact ⟨F, ρ, hs, hl, w⟩)⟩
/-- where exceptions are not looked for -/
theorem Aft.noX {α β : Type} {Rel : Fr → Hp → α → β → Prop} {We We' : Value → Option Addr → Hp → Prop} {F : Fr} {H : Hp} {r : R α} {Q : Fr → Hp → α → β → Prop} (h : Aft Rel C We F H r Q) (hr : ∀ k d st, r ≠ .exc k d st) : Aft Rel C We' F H r Q := by
  cases r with
  | ok a st => exact h
  | exc k d st => exact absurd rfl (hr k d st)
  | bad => exact h
theorem lcGo_nil {w : Walk} {f : D → Store → R (Option D)} {acc ys : List D} {st st' : Store} (h : lcGo w f [] acc st = .ok ys st') : still w st = true ∧ ys = acc ∧ st' = st := by
  unfold lcGo at h
  split at h
  · cases h; exact ⟨by assumption, rfl, rfl⟩
  · cases h
theorem lcGo_cons {w : Walk} {f : D → Store → R (Option D)} {d : D} {ds acc ys : List D} {st st' : Store} (h : lcGo w f (d :: ds) acc st = .ok ys st') : still w st = true ∧
    ((f d st).bind fun o st => match o with
      | some y => if acc.length < line then lcGo w f ds (acc ++ [y]) st else .bad
      | none => lcGo w f ds acc st) = .ok ys st' := by
  rw [lcGo] at h
  split at h
  · exact ⟨by assumption, h⟩
  · cases h
/-- one turn -/
def turnF (c : Cxt) (x : Ex) (tg : List Nat) (tp : Bool) (i : Ox) (own : List Nat) (ρ : Sl) (d : D) (st : Store) : R (Option D) := match asgT tg tp d (MP.wipe ρ own) with
      | none => .bad
      | some ρ1 => (evt c i ρ1 st).bind fun b st => if b then (ev c x ρ1 st).bind fun y st => .ok (some y) st else .ok none st
theorem bind_ok_inv {α β : Type} {r : R α} {f : α → Store → R β} {b : β} {st' : Store} (h : r.bind f = .ok b st') : ∃ a st, r = .ok a st ∧ f a st = .ok b st' := by
  cases r with
  | ok a st => exact ⟨a, st, rfl, h⟩
  | exc k d st => cases h
  | bad => cases h
theorem tLc_by {x : Ex} {tg : List Nat} {tp : Bool} {s : Sr} {i : Ox} {own : List Nat} {F : Fr} {ρ : Sl} {σ : L2.St} {H : Hp} {Q : VK} (htg : ∀ j ∈ tg, j ∈ own) (hs : Sto F H) (hl : Slo F H ρ σ)
    (h : Aft WR C (fun cl d H' => W cl d σ H') F H (evw c s ρ F.st) fun F1 H1 w _ => ∃ ys st', lcGo w (turnF c x tg tp i own ρ) w.its [] F1.st = .ok ys st' ∧
      ∀ F2 H2 D' vs, Ext F1 H1 F2 H2 → Sto F2 H2 → F2.ex D' → H1 D' = none → H2 D' = some (.lst vs) → Reps F2 H2 ys vs → F2.st = st' → Q (.ref D') H2) :
    tLc (evwT C W c s) (gF tg tp) (evtT C WF c i) (evT C WF c x) own σ H Q := by
  refine ⟨F, ρ, hs, hl, h.mono fun F1 H1 wk J x1 s1 r1 q1 D' hD => ?_⟩
  have hl1 := hl.ext x1
  obtain ⟨ys, st', hr, q1⟩ := q1
  refine ⟨fun i m H => m = wk.its.length - i ∧ i ≤ wk.its.length ∧ ∃ F acc vs, Ext F1 H1 F H ∧ Sto F H ∧ F.ex D' ∧ H D' = some (.lst vs) ∧ Reps F H acc vs ∧ lcGo wk (turnF c x tg tp _ own ρ) (wk.its.drop i) acc F.st = .ok ys st', ⟨_, rfl, Nat.zero_le _, F1.add D', [], [], ?_, s1.start _ hD, .inr rfl, upd_same, rfl, hr⟩, ?_⟩
  · exact Ext.add (Ext.fresh F1 _ hD) hD
  rintro n m H ⟨rfl, hn, F, acc, vs, xe, sF, xD, hDv, rs, run⟩
  have DH : H D' ≠ none := by rw [hDv]; exact fun z => nomatch z
  by_cases hlt : n < wk.its.length
  · rw [List.drop_eq_getElem_cons hlt] at run
    obtain ⟨st1, run⟩ := lcGo_cons run
    obtain ⟨wr, _⟩ := r1 F H xe sF st1
    obtain ⟨jg, jy⟩ := wr n wk.its[n] (List.getElem?_eq_getElem hlt)
    refine .inr ⟨jg, fun H => ∃ F acc vs, Ext F1 H1 F H ∧ Sto F H ∧ F.ex D' ∧ H D' = some (.lst vs) ∧ Reps F H acc vs ∧ lcGo wk (turnF c x tg tp _ own ρ) (wk.its.drop (n + 1)) acc F.st = .ok ys st', fun H' p' => ⟨_, by omega, rfl, hlt, p'⟩, fun v H' y => ?_⟩
    obtain ⟨x2, s2, rd⟩ := jy v H' y
    obtain ⟨o, sto, eo, run⟩ := bind_ok_inv run
    unfold turnF at eo
    cases ea : asgT tg tp wk.its[n] (MP.wipe ρ own) with
    | none => rw [ea] at eo; cases eo
    | some ρ1 =>
      rw [ea] at eo
      obtain ⟨b, stb, eb, eo⟩ := bind_ok_inv eo
      have xD2 : F.ex D' := xD
      have hD2 : H' D' = some (.lst vs) := x2.keep _ _ hDv fun k hk e => sF.nex k hk (by rw [e]; exact xD)
      refine ⟨F, MP.wipe ρ own, _, ρ1, s2, ((hl1.ext (xe.trans x2)).wipe own), rd, ea, fun σ1 hl2 hw => ⟨?_, ?_⟩⟩
      · have hq := hw own htg
        rw [hq]
        apply List.ext_getElem?
        intro j
        rw [wipe_get, wipe_get]
        by_cases hj : j ∈ own
        · simp only [if_pos hj]
          cases σ[j]? <;> rfl
        · simp only [if_neg hj]
      · refine ⟨F, ρ1, s2, hl2, ?_⟩
        rw [eb]
        intro F3 H3 b' est x3 s3 ebb
        have ebb : b = b' := ebb
        subst ebb
        have xD3 : F3.ex D' := (x3.ex D' (by rw [hD2]; exact fun z => nomatch z)).mpr xD2
        have hD3 : H3 D' = some (.lst vs) := x3.keep _ _ hD2 fun k hk e => s2.nex k hk (by rw [e]; exact xD2)
        have rs3 := (rs.ext x2).ext x3
        have xx3 := (xe.trans x2).trans x3
        cases b with
        | false =>
          rw [if_neg Bool.false_ne_true] at eo
          cases eo
          rw [← est] at run
          simp only [Bool.false_eq_true, if_false]
          exact ⟨F3, acc, vs, xx3, s3, xD3, hD3, rs3, run⟩
        | true =>
          rw [if_pos rfl] at eo
          simp only [if_true]
          obtain ⟨y, sty, ey, eo⟩ := bind_ok_inv eo
          cases eo
          have run : (if acc.length < line then lcGo wk (turnF c x tg tp i own ρ) (wk.its.drop (n + 1)) (acc ++ [y]) sto else R.bad) = .ok ys st' := run
          split at run
          · rename_i hlen
            refine ⟨F3, ρ1, s3, hl2.ext x3, ?_⟩
            rw [est, ey]
            intro F4 H4 v4 est4 x4 s4 r4
            have xD4 : F4.ex D' := (x4.ex D' (by rw [hD3]; exact fun z => nomatch z)).mpr xD3
            have hD4 : H4 D' = some (.lst vs) := x4.keep _ _ hD3 fun k hk e => s3.nex k hk (by rw [e]; exact xD3)
            have rs4 := rs3.ext x4
            obtain ⟨o1, o2, _⟩ := Rep.other (F := F4) (H := H4) (D' := D') (o := .lst (vs ++ [v4])) (.inl xD4)
            refine ⟨vs, hD4, by rw [← rs4.length, ← line_eq]; exact hlen, F4, acc ++ [y], vs ++ [v4], (xx3.trans x4).other hD, s4.other xD4 hD4, xD4, upd_same, (o2 _ _ rs4).append (Reps.one (o1 _ _ r4)), ?_⟩
            rw [est4]
            exact run
          · cases run
  · have e : n = wk.its.length := by omega
    subst e
    rw [List.drop_length] at run
    obtain ⟨st1, ey, est⟩ := lcGo_nil run
    subst ey
    obtain ⟨_, js⟩ := r1 F H xe sF st1
    exact .inl ⟨js, q1 F H D' vs xe sF xD hD hDv rs est.symm⟩
theorem tLc_of {x : Ex} {tg : List Nat} {tp : Bool} {s : Sr} {i : Ox} {own : List Nat} {σ : L2.St} {H : Hp} {Q : VK} (htg : ∀ j ∈ tg, j ∈ own) (h : evT C W c (.lc x tg tp s i own) σ H Q) :
    tLc (evwT C W c s) (gF tg tp) (evtT C WF c i) (evT C WF c x) own σ H Q := by
  obtain ⟨F, ρ, hs, hl, w⟩ := h
  rw [ev] at w
  refine tLc_by htg hs hl ((Aft.bind w).mono fun F1 H1 wk J x1 s1 r1 q1 => ?_)
  have q1 : Aft Rep C _ F1 H1 ((noExc (lcGo wk (turnF c x tg tp i own ρ) wk.its [] F1.st)).bind fun ys st => R.ok (.lst ys) st) (fun _ H' _ v => Q v H') := q1
  cases hr : lcGo wk (turnF c x tg tp i own ρ) wk.its [] F1.st with
  | exc k d st => rw [hr] at q1; exact q1.elim
  | bad => rw [hr] at q1; exact q1.elim
  | ok ys st' =>
    rw [hr] at q1
    have q1 : ∀ F' H' b, F'.st = st' → Ext F1 H1 F' H' → Sto F' H' → Rep F' H' (.lst ys) b → Q b H' := q1
    refine ⟨ys, st', rfl, fun F2 H2 D' vs xe sF xD hD hDv rs est => q1 (F2.rem D') H2 _ est (xe.rem hD) sF.rem ⟨D', vs, rfl, ?_, hDv, ?_⟩⟩
    · rintro (z | ⟨k, hk, e⟩)
      · exact z.2 rfl
      · exact sF.nex k hk (by rw [show F2.al k = D' from e]; exact xD)
    · exact (Rep.less (F := F2) (G := F2.rem D') (H := H2) (fun _ _ => rfl) (Nat.le_refl _) fun a h => h.elim (fun z => .inl z.1) .inr).2.1 _ _ rs
end
end MP
end
section
set_option maxRecDepth 100000
set_option maxHeartbeats 4000000
/-! MPSnd10: defs that keep their promise where no repr is under way; their calls; the context. -/
namespace MP
open PySem L2
variable [Glo]
/-- the promise of a def, kept wherever no repr of a list is under way -/
structure FnG (P : Program) (w : World) (K : PySem.W.Frag) (mg : Str → Option Value) (base : Heap) (n : Nat) (f : Addr) (fd : FuncData) (ps : List Str) (sp : Sp) : Prop where
  wide : ∀ xs H Q E, sp xs H Q E → xs.length = ps.length
  goes : ∀ (A : Around) (up : List Env) (s : Shared) (H : Hp) (args : Args) (us : List Value) (xs : List V) (Q : VK) (E : XK), A.guards = some [] → Room n A → Env0 P w K mg base A up s H →
    BindsTo s fd args (ps.zip us) → Vals xs us → sp xs H Q E → codeAny (model P w) A (.call (.ref f) args) (CR (L2.CX P w) up P w H s Q E) s
theorem FnG.mono {P : Program} {w : World} {K : PySem.W.Frag} {mg : Str → Option Value} {base : Heap} {m n : Nat} {f : Addr} {fd : FuncData} {ps : List Str} {sp : Sp} (F : FnG P w K mg base m f fd ps sp) (h : m ≤ n) : FnG P w K mg base n f fd ps sp :=
  ⟨F.wide, fun A up s H args us xs Q E g r => F.goes A up s H args us xs Q E g (r.mono h)⟩
/-- a call that binds the values zs -/
theorem run_g {X : Cx} {n : Nat} {f : Addr} {fd : FuncData} {ps : List Str} {sp : Sp} {W : WX} {pins : List (Addr × Obj)} {σ : L2.St} {H : Hp} {s : Shared} {Q : VK} {us zs : List Value} {kw : List (Str × Value)} {xs : List V} (F : FnG X.prog X.w X.K X.mg X.base n f fd ps sp) (hg : X.A.guards = some []) (hr : Room n X.A)
    (hx : PassesAt (L2.CX X.prog X.w) X σ (WE W σ)) (I : L2.Inv X pins σ H s) (hb : BindsTo s fd ⟨us, kw⟩ (ps.zip zs)) (r : Vals xs zs) (h : sp xs H Q (WE W σ)) : wpAny (model X.prog X.w) X.A (call (.ref f) us kw) (EP X pins σ Q) X.xe s := by
  refine wpAny_call (codeAny_mono (F.goes X.A X.stack s H ⟨us, kw⟩ zs xs Q (WE W σ) hg hr I.env0 hb r h) fun out s2 z => ?_)
  rcases out with e | fl
  · exact hx pins H s e s2 I z
  · cases fl with
    | ret u => exact I.after z
    | _ => exact z.elim
section
variable {X : Cx} {n : Nat} {f : Addr} {fd : FuncData} {ps : List Str} {sp : Sp} {W : WX} {x : Str} {p pos : Pos} {e : Expr} {es : List Expr} {t tk : TA} {kws : List Keyword}
theorem pe_calG (F : FnG X.prog X.w X.K X.mg X.base n f fd ps sp) (hgd : X.A.guards = some []) (hr : Room n X.A) (hx : ∀ σ, PassesAt (L2.CX X.prog X.w) X σ (WE W σ)) (hg : Gl X x) (hm : X.mg x = some (.ref f)) (hk : PySem.W.keepIn X.K (.ref f) = true) (hb : Binds X.K fd ps [])
    (ha : PA X (e :: es) t) (hd : (x == ("__debug__" : Str)) = false) (hs : noStars (e :: es) = true) : PE X (.Call (.Name x p) (e :: es) [] pos) (fun σ H Q => t σ H fun vs H1 => sp vs H1 Q (WE W σ)) := by
  have h1 : isStar e = false ∧ noStars es = true := by
    unfold noStars at hs ⊢
    rw [List.all_cons, Bool.and_eq_true, Bool.not_eq_true'] at hs
    exact hs
  refine ⟨fun pins s σ H Q I q => wpAny_Call_Name_kw (ld_glob I hg hm ?_ hd)⟩
  refine PySem.W.callWith_K (h₀ := X.base) I.ok.mod.kin hk ?_ (star_cons h1.1) (stars_any h1.2)
  refine thn (ha.run pos pins s σ H _ I q) fun us s1 ⟨vs, H1, I1, r, q1⟩ => ⟨I1.kIn, ?_⟩
  have hl : (us ++ []).length = ps.length := by rw [List.append_nil, ← r.length]; exact F.wide _ _ _ _ q1
  have b := hb s1 us I1.kIn hl
  rw [List.append_nil] at b
  exact run_g F hgd hr (hx σ) I1 b r q1
/-- of a slot that holds the def -/
theorem pe_cavG {i : Nat} (hN : X.N[i]? = some x) (hv : Vis X.env.scope x) (hgd : X.A.guards = some []) (hr : Room n X.A) (hx : ∀ σ, PassesAt (L2.CX X.prog X.w) X σ (WE W σ)) (ha : PA X (e :: es) t) (hd : (x == ("__debug__" : Str)) = false) (hc : (x == ("__classdict__" : Str)) = false) (hs : noStars (e :: es) = true) :
    PE X (.Call (.Name x p) (e :: es) [] pos) (fun σ H Q => ∃ f fd ps sp, σ[i]? = some (some (.ref f)) ∧ FnG X.prog X.w X.K X.mg X.base n f fd ps sp ∧ PySem.W.keepIn X.K (.ref f) = true ∧ Binds X.K fd ps [] ∧ t σ H fun vs H1 => sp vs H1 Q (WE W σ)) := by
  have h1 : isStar e = false ∧ noStars es = true := by
    unfold noStars at hs ⊢
    rw [List.all_cons, Bool.and_eq_true, Bool.not_eq_true'] at hs
    exact hs
  refine ⟨fun pins s σ H Q I ⟨f, fd, ps, sp, hσ, F, hk, hb, q⟩ => wpAny_Call_Name_kw (thn ((pe_var (pos := p) hN hv hd hc).run pins s σ H (fun v H1 => v = .ref f ∧ H1 = H) I ⟨_, hσ, rfl, rfl⟩) fun u s0 ⟨v, H0, I0, r0, e1, e2⟩ => ?_)⟩
  subst e1 e2
  cases r0
  refine PySem.W.callWith_K (h₀ := X.base) I.ok.mod.kin hk ?_ (star_cons h1.1) (stars_any h1.2)
  refine thn (ha.run pos pins s0 σ _ _ I0 q) fun us s1 ⟨vs, H1, I1, r, q1⟩ => ⟨I1.kIn, ?_⟩
  have hl : (us ++ []).length = ps.length := by rw [List.append_nil, ← r.length]; exact F.wide _ _ _ _ q1
  have b := hb s1 us I1.kIn hl
  rw [List.append_nil] at b
  exact run_g F hgd hr (hx σ) I1 b r q1
/-! ### keywords -/
theorem pick_map {α β : Type} {Rr : α → β → Prop} : ∀ {ix : List Nat} {xs : List α} {us : List β} {ys : List α}, Paired Rr xs us → pick ix xs = some ys → ∃ ws, pick ix us = some ws ∧ Paired Rr ys ws
  | [], _, _, _, _, h => by
    cases h
    exact ⟨[], rfl, .nil⟩
  | i :: ix, xs, us, ys, r, h => by
    have h : ((xs[i]?).bind fun d => (pick ix xs).map fun rs => d :: rs) = some ys := h
    have gt : ∀ {xs : List α} {us : List β} {i : Nat} {x : α}, Paired Rr xs us → xs[i]? = some x → ∃ u, us[i]? = some u ∧ Rr x u := by
      intro xs us i x r
      induction r generalizing i with
      | nil => intro h; simp at h
      | cons a _ ih =>
        intro h
        cases i with
        | zero => simp at h; subst h; exact ⟨_, rfl, a⟩
        | succ i => simp at h; simpa using ih h
    cases e : xs[i]? with
    | none => rw [e] at h; cases h
    | some x =>
      rw [e] at h
      cases q : pick ix xs with
      | none => rw [q] at h; cases h
      | some zs =>
        rw [q] at h
        cases h
        obtain ⟨u, e1, e2⟩ := gt r e
        obtain ⟨ws, e3, e4⟩ := pick_map r q
        refine ⟨u :: ws, ?_, .cons e2 e4⟩
        show ((us[i]?).bind fun d => (pick ix us).map fun rs => d :: rs) = _
        rw [e1, e3]
        rfl
/-- how a call with keywords binds -/
def KB (K : PySem.W.Frag) (fd : FuncData) (ps : List Str) (n : Nat) (ks : List Str) (ix : List Nat) : Prop :=
  ∀ (s : Shared) (us ws zs : List Value), K.In s.heap → us.length = n → ws.length = ks.length → pick ix (us ++ ws) = some zs → BindsTo s fd ⟨us, ks.zip ws⟩ (ps.zip zs)
theorem kw_all {env : Env} (h : kws.all (fun k => k.arg.isSome) = true) : (backToKw pos (keywordEach kws env)).all (·.1.isSome) = true ∧ (backToKw pos (keywordEach kws env)).any (·.1.isNone) = false ∧ (backToKw pos (keywordEach kws env)).filterMap (·.1) = kws.filterMap (·.arg) := by
  induction kws with
  | nil => exact ⟨rfl, rfl, rfl⟩
  | cons k r ih =>
    obtain ⟨a, v, q⟩ := k
    rw [List.all_cons, Bool.and_eq_true] at h
    obtain ⟨i1, i2, i3⟩ := ih h.2
    cases a with
    | none => cases h.1
    | some a =>
      refine ⟨?_, ?_, ?_⟩
      · show (true && (backToKw pos (keywordEach r env)).all (·.1.isSome)) = true
        rw [i1]
        rfl
      · show (false || (backToKw pos (keywordEach r env)).any (·.1.isNone)) = false
        rw [i2]
        rfl
      · show a :: (backToKw pos (keywordEach r env)).filterMap (·.1) = a :: r.filterMap (·.arg)
        rw [i3]
theorem pe_cakG {ix : List Nat} (F : FnG X.prog X.w X.K X.mg X.base n f fd ps sp) (hgd : X.A.guards = some []) (hr : Room n X.A) (hx : ∀ σ, PassesAt (L2.CX X.prog X.w) X σ (WE W σ)) (hg : Gl X x) (hm : X.mg x = some (.ref f)) (hk : PySem.W.keepIn X.K (.ref f) = true)
    (hb : KB X.K fd ps es.length (kws.filterMap (·.arg)) ix) (ha : PA X es t) (hkw : PK X kws tk) (hlen : ∀ σ H Q, t σ H Q → t σ H fun vs H1 => vs.length = es.length ∧ Q vs H1) (hlek : ∀ σ H Q, tk σ H Q → tk σ H fun vs H1 => vs.length = (kws.filterMap (·.arg)).length ∧ Q vs H1)
    (hnil : es = [] → ∀ σ H Q, t σ H Q → Q [] H) (hall : kws.all (fun k => k.arg.isSome) = true) (hd : (x == ("__debug__" : Str)) = false) (hs : noStars es = true) :
    PE X (.Call (.Name x p) es kws pos) (fun σ H Q => t σ H fun vs H1 => tk σ H1 fun zs H2 => ∃ ys, pick ix (vs ++ zs) = some ys ∧ sp ys H2 Q (WE W σ)) := by
  refine ⟨fun pins s σ H Q I q => wpAny_Call_Name_kw (ld_glob I hg hm ?_ hd)⟩
  obtain ⟨k1, k2, k3⟩ := kw_all (pos := pos) (env := X.env) hall
  have fin : ∀ (us : List Value) (s1 : Shared) (vs : List V) (H1 : Hp), L2.Inv X pins σ H1 s1 → Vals vs us → vs.length = es.length → (tk σ H1 fun zs H2 => ∃ ys, pick ix (vs ++ zs) = some ys ∧ sp ys H2 Q (WE W σ)) →
      wpAny (model X.prog X.w) X.A (evalAll ((backToKw pos (keywordEach kws X.env)).map (·.2))) (fun ks s2 => X.K.In s2.heap ∧ wpAny (model X.prog X.w) X.A (call (.ref f) us (((backToKw pos (keywordEach kws X.env)).filterMap (·.1)).zip ks)) (EP X pins σ Q) X.xe s2) X.xe s1 := by
    intro us s1 vs H1 I1 r l1 q1
    refine thn (hkw.run pos pins s1 σ H1 _ I1 (hlek _ _ _ q1)) fun ws s2 ⟨zs, H2, I2, rz, l2, ys, py, q2⟩ => ⟨I2.kIn, ?_⟩
    obtain ⟨us2, pu, ru⟩ := pick_map (r.append rz) py
    rw [k3]
    exact run_g F hgd hr (hx σ) I2 (hb s2 us ws us2 I2.kIn (r.length.symm.trans l1) (rz.length.symm.trans l2) pu) ru q2
  cases es with
  | nil =>
    refine PySem.W.callWith_KW0 (h₀ := X.base) I.ok.mod.kin hk k1 ?_ (by rw [k2]; rfl)
    exact fin [] s [] H I .nil rfl (hnil rfl _ _ _ q)
  | cons e es =>
    have h1 : isStar e = false ∧ noStars es = true := by
      unfold noStars at hs ⊢
      rw [List.all_cons, Bool.and_eq_true, Bool.not_eq_true'] at hs
      exact hs
    refine PySem.W.callWith_KW (h₀ := X.base) I.ok.mod.kin hk k1 ?_ (by rw [k2, stars_any hs]; rfl) (star_cons h1.1)
    exact thn (ha.run pos pins s σ H _ I (hlen _ _ _ q)) fun us s1 ⟨vs, H1, I1, r, l1, q1⟩ => fin us s1 vs H1 I1 r l1 q1
/-! ### the context -/
/-- what an exception's class of the module has -/
structure ExF (K : PySem.W.Frag) (C : Addr) : Prop where
  cls : (PySem.W.clsIn K C).isSome = true
  ga : PySem.W.findIn K (.ref C) "__getattribute__" = some (some (.builtin "BaseException.__getattribute__"))
  gt : PySem.W.findIn K (.ref C) "__getattr__" = some none
  sub : PySem.W.subIn K (.ref C) (.type "BaseException") = some true
  cl : PySem.W.findIn K (.ref C) "__class__" = some (some (.builtin "object.__class__"))
  ob : PySem.W.mroIn K C (.type "object") = some true
  dct : PySem.W.hasDictIn K C = true
  val : PySem.W.findIn K (.ref C) "value" = some none

/-- what a body's context holds -/
structure GX (T : Tab) (C : Nat → Addr) (W : WX) (c : Cxt) (n : Nat) (se : SE) (X : Cx) : Prop where
  N : X.N = se.N
  nd : se.N.Nodup
  sc : X.env.scope = se.sc
  fn : ∀ x, se.fn x = true → X.fn x = true
  calm : X.calm = true
  gd : X.A.guards = some []
  room : Room n X.A
  bl : ∀ x, x ∈ bnames → X.mg x = none
  con : ∀ (g : Nat) (x : Str) (d : D), T.con[g]? = some x → c.con g = some d → ∃ u v, X.mg x = some u ∧ RelV v u ∧ ∀ F H, Rep F H d v
  nf : c.nf = T.fns.length
  fns : ∀ (f : Nat) (x : Str), T.fns[f]? = some x → X.mg x = some (.ref (Glo.fn f)) ∧ PySem.W.keepIn X.K (.ref (Glo.fn f)) = true ∧ ∃ fd ps, FnG X.prog X.w X.K X.mg X.base n (Glo.fn f) fd ps (spF C c f) ∧ Binds X.K fd ps [] ∧ ∀ m ks ix, (f, m, ks, ix) ∈ T.kws → KB X.K fd ps m ks ix
  nx : Glo.nx = T.exc.length
  exc : ∀ (g : Nat) (x : Str), T.exc[g]? = some x → X.mg x = some (.ref (Glo.cl g)) ∧ C g = Glo.cl g ∧ ExF X.K (Glo.cl g)
  exk : ∀ g k, g < T.exc.length → k < T.exc.length → PySem.W.kitOne X.K (.ref (Glo.cl g)) (.ref (Glo.cl k)) = some (decide (g = k) || decide (k = 0))
  sp : PySem.W.specialIn X.K (.builtin "object.__class__") "__get__" = some (some (.builtin "getset_descriptor.__get__")) ∧ PySem.W.takesIn X.K (.builtin "object.__class__") = some true
  ps : ∀ σ, PassesAt (L2.CX X.prog X.w) X σ (WE W σ)
end
end MP
end
section
set_option maxRecDepth 100000
set_option maxHeartbeats 4000000
/-! MPSnd11: names, constants, calls. -/
namespace MP
open PySem L2
variable [Glo]
section
variable {T : Tab} {C : Nat → Addr} {W : WX} {c : Cxt} {n : Nat} {se : SE} {X : Cx}
theorem pe_nmF (G : GX T C W c n se X) {i : Nat} {x : Str} {p : Pos} (h1 : se.N[i]? = some x) (h2 : visB se.sc x = true) (h3 : okNm x = true) : PE X (.Name x p) (evT C W c (.nm i)) := by
  obtain ⟨k1, k2, _⟩ := okNm_ok h3
  refine imp_e (pe_var (i := i) (by rw [G.N]; exact h1) (by rw [G.sc]; exact visB_ok h2) k1 k2) fun σ H Q ⟨F, ρ, hs, hl, w⟩ => ?_
  rw [ev] at w
  cases e : ρ[i]? with
  | none => rw [e] at w; exact w.elim
  | some o =>
    cases o with
    | none => rw [e] at w; exact w.elim
    | some d =>
      rw [e] at w
      obtain ⟨v, e1, r⟩ := hl.2 i d e
      exact ⟨v, e1, w.val hs r⟩
theorem pe_knF {d : D} {k : Const} {j : Nat} {p : Pos} (h : okK d k = true) : PE X (.Constant k j p) (evT C W c (.kn d)) := by
  have go : ∀ {v : V}, (∀ F H, Rep F H d v) → ∀ σ H Q, evT C W c (.kn d) σ H Q → tC v σ H Q := fun r σ H Q ⟨F, ρ, hs, hl, w⟩ => by
    rw [ev] at w
    exact w.val hs (r F H)
  cases d <;> cases k <;> first | cases h | skip
  · exact imp_e pe_non (go fun _ _ => rfl)
  · simp only [okK, beq_iff_eq] at h
    subst h
    exact imp_e pe_bl (go fun _ _ => rfl)
  · simp only [okK, decide_eq_true_eq] at h
    subst h
    exact imp_e pe_int (go fun _ _ => rfl)
  · simp only [okK, decide_eq_true_eq] at h
    subst h
    exact imp_e pe_str (go fun _ _ => rfl)
theorem pe_conF (G : GX T C W c n se X) {g : Nat} {x : Str} {p : Pos} (h1 : T.con[g]? = some x) (h2 : gloB se.sc x = true) (h3 : okNm x = true) : PE X (.Name x p) (evT C W c (.con g)) := by
  obtain ⟨k1, _, _⟩ := okNm_ok h3
  cases e : c.con g with
  | none =>
    refine ⟨fun pins s σ H Q I ⟨F, ρ, hs, hl, w⟩ => ?_⟩
    rw [ev, e] at w
    exact w.elim
  | some d =>
    obtain ⟨u, v, hm, r, rr⟩ := G.con g x d h1 e
    refine imp_e (pe_glob (gloB_ok (by rw [G.sc]; exact h2)) hm r k1) fun σ H Q ⟨F, ρ, hs, hl, w⟩ => ?_
    rw [ev, e] at w
    exact w.val hs (rr F H)
theorem pe_fnF (G : GX T C W c n se X) {f : Nat} {x : Str} {p : Pos} (h1 : T.fns[f]? = some x) (h2 : gloB se.sc x = true) (h3 : okNm x = true) : PE X (.Name x p) (evT C W c (.fn f)) := by
  obtain ⟨k1, _, _⟩ := okNm_ok h3
  obtain ⟨hm, _⟩ := G.fns f x h1
  refine imp_e (pe_glob (v := .ref (Glo.fn f)) (gloB_ok (by rw [G.sc]; exact h2)) hm rfl k1) fun σ H Q ⟨F, ρ, hs, hl, w⟩ => ?_
  rw [ev] at w
  exact w.val hs rfl
/-! ### calls -/
theorem cal_of {f : Nat} {es : Exs} {σ : L2.St} {H : Hp} {Q : VK} (h : evT C W c (.cal f es) σ H Q) : evsT C W c es σ H fun vs H1 => spF C c f vs H1 Q (WE W σ) := by
  obtain ⟨F, ρ, hs, hl, w⟩ := h
  rw [ev] at w
  exact ⟨F, ρ, hs, hl, (Aft.bind w).mono fun F1 H1 ds vs x1 s1 r1 q1 => ⟨F1, ds, s1, r1, q1⟩⟩
/-- a call that sees no cell -/
theorem pur_at {F : Fr} {H : Hp} {ds : List D} {vs : List V} {We : Value → Option Addr → Hp → Prop} {Q : VK} {r : R D} (s : Sto F H) (rs : Reps F H ds vs) (hp : freeDs ds = true)
    (h : Aft Rep C We F H (match r with
      | .ok d _ => if freeD d then .ok d F.st else .bad
      | .exc k d _ => if freeD d then .exc k d F.st else .bad
      | .bad => .bad) fun _ H' _ v => Q v H') : ∃ F0 : Fr, F0.st = [] ∧ Sto F0 H ∧ Reps F0 H ds vs ∧ Aft Rep C We F0 H r fun _ H' _ v => Q v H' := by
  have un0 : ∀ a, F.un a → H a ≠ none := fun a z => z.elim (s.ext a) fun ⟨k, hk, e⟩ => by rw [← e]; exact s.there hk
  refine ⟨⟨F.al, F.un, []⟩, rfl, ⟨fun k o e => by simp at e, fun j k hj => absurd hj.lt (Nat.not_lt_zero _), fun k hk => absurd hk.lt (Nat.not_lt_zero _), un0⟩, repsF (fun a _ z => z.elim id fun ⟨k, hk, _⟩ => absurd hk.lt (Nat.not_lt_zero _)) ds vs hp rs, ?_⟩
  -- from the callee's frame back
  have back : ∀ {F' : Fr} {H' : Hp}, Ext ⟨F.al, F.un, []⟩ H F' H' → Ext F H F H' ∧ Sto F H' ∧ ∀ a, F.un a → F'.un a := by
    intro F' H' x
    have xe : Ext F H F H' := ⟨fun _ _ => rfl, fun _ _ => Iff.rfl, Nat.le_refl _, fun _ _ h => h, fun k hk h => absurd h.lt (Nat.not_lt.mpr hk), x.there, fun a o e _ => x.keep a o e fun k hk => absurd hk.lt (Nat.not_lt_zero _)⟩
    refine ⟨xe, ⟨fun k o e => ?_, s.inj, s.nex, fun a z q => s.ext a z (x.there a q)⟩, fun a z => .inl ((x.ex a (un0 a z)).mpr z)⟩
    have q := s.ce k o e
    have st : ∀ u, H (F.al k) = some u → H' (F.al k) = some u := fun u eu => x.keep _ _ eu fun k hk => absurd hk.lt (Nat.not_lt_zero _)
    cases o with
    | lst ds =>
      obtain ⟨vs, q1, r⟩ := q
      exact ⟨vs, st _ q1, r.ext xe⟩
    | dic ds =>
      obtain ⟨vs, q1, r⟩ := q
      exact ⟨vs, st _ q1, r.ext xe⟩
    | gone => trivial
  cases r with
  | bad => exact h
  | ok d st =>
    intro F' H' b est x s' rb
    by_cases hd : freeD d = true
    · have h : Aft Rep C We F H (if freeD d then .ok d F.st else .bad) fun _ H' _ v => Q v H' := h
      rw [if_pos hd] at h
      obtain ⟨xe, sf, hu⟩ := back x
      exact h F H' b rfl xe sf (repF (fun a _ z => hu a z) d b hd rb)
    · have h : Aft Rep C We F H (if freeD d then .ok d F.st else .bad) fun _ H' _ v => Q v H' := h
      rw [if_neg hd] at h
      exact h.elim
  | exc k d st =>
    intro F' H' dx v est x s' hx hux hnx rb
    by_cases hd : freeD d = true
    · have h : Aft Rep C We F H (if freeD d then .exc k d F.st else .bad) fun _ H' _ v => Q v H' := h
      rw [if_pos hd] at h
      obtain ⟨xe, sf, hu⟩ := back x
      exact h F H' dx v rfl xe sf hx (fun z => hux (hu dx z)) hnx (repF (fun a _ z => hu a z) d v hd rb)
    · have h : Aft Rep C We F H (if freeD d then .exc k d F.st else .bad) fun _ H' _ v => Q v H' := h
      rw [if_neg hd] at h
      exact h.elim
theorem pur_of {f : Nat} {es : Exs} {σ : L2.St} {H : Hp} {Q : VK} (h : evT C W c (.pur f es) σ H Q) : evsT C W c es σ H fun vs H1 => spF C c f vs H1 Q (WE W σ) := by
  obtain ⟨F, ρ, hs, hl, w⟩ := h
  rw [ev] at w
  refine ⟨F, ρ, hs, hl, (Aft.bind w).mono fun F1 H1 ds vs x1 s1 r1 q1 => ?_⟩
  split at q1
  · rename_i hp
    obtain ⟨F0, e0, s0, rr, q⟩ := pur_at s1 r1 hp q1
    refine ⟨F0, ds, s0, rr, ?_⟩
    rw [e0]
    exact q
  · exact q1.elim
theorem pe_calF (G : GX T C W c n se X) {f : Nat} {es : Exs} {x : Str} {xs : List Expr} {p pos : Pos} {t : TE} (h1 : T.fns[f]? = some x) (h2 : gloB se.sc x = true) (h3 : okNm x = true) (ha : PA X xs (evsT C W c es)) (hs : noStars xs = true) (hn : xs.isEmpty = false)
    (ht : ∀ σ H Q, t σ H Q → evsT C W c es σ H fun vs H1 => spF C c f vs H1 Q (WE W σ)) : PE X (.Call (.Name x p) xs [] pos) t := by
  obtain ⟨k1, _, _⟩ := okNm_ok h3
  obtain ⟨hm, hk, fd, ps, F, hb, _⟩ := G.fns f x h1
  cases xs with
  | nil => cases hn
  | cons e es' => exact imp_e (pe_calG F G.gd G.room G.ps (gloB_ok (by rw [G.sc]; exact h2)) hm hk hb ha k1 hs) ht
theorem cav_of (G : GX T C W c n se X) {i : Nat} {es : Exs} {σ : L2.St} {H : Hp} {Q : VK} (h : evT C W c (.cav i es) σ H Q) :
    ∃ f fd ps sp, σ[i]? = some (some (.ref f)) ∧ FnG X.prog X.w X.K X.mg X.base n f fd ps sp ∧ PySem.W.keepIn X.K (.ref f) = true ∧ Binds X.K fd ps [] ∧ evsT C W c es σ H fun vs H1 => sp vs H1 Q (WE W σ) := by
  obtain ⟨F, ρ, hs, hl, w⟩ := h
  rw [ev] at w
  split at w
  · rename_i f e
    obtain ⟨v, e1, r⟩ := hl.2 i _ e
    have r : v = .ref (Glo.fn f) := r
    subst r
    by_cases hf : f < c.nf
    · rw [if_pos hf] at w
      rw [G.nf] at hf
      obtain ⟨hm, hk, fd, ps, Fn, hb, _⟩ := G.fns f _ (List.getElem?_eq_getElem hf)
      exact ⟨_, fd, ps, _, e1, Fn, hk, hb, F, ρ, hs, hl, (Aft.bind w).mono fun F1 H1 ds vs x1 s1 r1 q1 => ⟨F1, ds, s1, r1, q1⟩⟩
    · rw [if_neg hf] at w
      exact w.elim
  · exact w.elim
theorem pe_cavF (G : GX T C W c n se X) {i : Nat} {es : Exs} {x : Str} {xs : List Expr} {p pos : Pos} (h1 : se.N[i]? = some x) (h2 : visB se.sc x = true) (h3 : okNm x = true) (ha : PA X xs (evsT C W c es)) (hs : noStars xs = true) (hn : xs.isEmpty = false) :
    PE X (.Call (.Name x p) xs [] pos) (evT C W c (.cav i es)) := by
  obtain ⟨k1, k2, _⟩ := okNm_ok h3
  cases xs with
  | nil => cases hn
  | cons e es' => exact imp_e (pe_cavG (by rw [G.N]; exact h1) (by rw [G.sc]; exact visB_ok h2) G.gd G.room G.ps ha k1 k2 hs) fun σ H Q w => cav_of G w
/-! ### keywords -/
theorem Reps.pick {F : Fr} {H : Hp} : ∀ {ix : List Nat} {ds rs : List D} {vs : List V}, Reps F H ds vs → MP.pick ix ds = some rs → ∃ us, MP.pick ix vs = some us ∧ Reps F H rs us
  | [], _, _, _, _, h => by
    cases h
    exact ⟨[], rfl, rfl⟩
  | i :: ix, ds, rs, vs, r, h => by
    have h : ((ds[i]?).bind fun d => (MP.pick ix ds).map fun rs => d :: rs) = some rs := h
    cases e : ds[i]? with
    | none => rw [e] at h; cases h
    | some d =>
      rw [e] at h
      cases q : MP.pick ix ds with
      | none => rw [q] at h; cases h
      | some zs =>
        rw [q] at h
        cases h
        obtain ⟨u, e1, e2⟩ := r.get e
        obtain ⟨ws, e3, e4⟩ := Reps.pick r q
        refine ⟨u :: ws, ?_, u, ws, rfl, e2, e4⟩
        show ((vs[i]?).bind fun d => (MP.pick ix vs).map fun rs => d :: rs) = _
        rw [e1, e3]
        rfl
def elen : Exs → Nat
  | .nil => 0
  | .cons _ es => elen es + 1
theorem evs_len : ∀ {es : Exs} {ρ : Sl} {st st' : Store} {ds : List D}, evs c es ρ st = .ok ds st' → ds.length = elen es
  | .nil, _, _, _, _, h => by
    rw [evs] at h
    cases h
    rfl
  | .cons e es, ρ, st, st', ds, h => by
    rw [evs] at h
    obtain ⟨x, s1, e1, h⟩ := bind_ok_inv h
    obtain ⟨xs, s2, e2, h⟩ := bind_ok_inv h
    cases h
    exact congrArg Nat.succ (evs_len e2)
theorem okEs_len : ∀ {es : Exs} {xs : List Expr}, okEs T se es xs = true → xs.length = elen es
  | .nil, xs, h => by
    rw [okEs] at h
    cases xs with
    | nil => rfl
    | cons _ _ => cases h
  | .cons e es, xs, h => by
    cases xs with
    | nil => simp [okEs] at h
    | cons x r =>
      rw [okEs, Bool.and_eq_true, Bool.and_eq_true] at h
      exact congrArg Nat.succ (okEs_len h.2.2)
theorem Aft.monoE {α β : Type} {Rel : Fr → Hp → α → β → Prop} {We : Value → Option Addr → Hp → Prop} {F : Fr} {H : Hp} {r : R α} {Q Q' : Fr → Hp → α → β → Prop} (h : Aft Rel C We F H r Q) (hq : ∀ F' H' a b st, r = .ok a st → Rel F' H' a b → Q F' H' a b → Q' F' H' a b) : Aft Rel C We F H r Q' := by
  cases r with
  | ok a st => exact fun F' H' b e x s q => hq F' H' a b st rfl q (h F' H' b e x s q)
  | exc k d st => exact h
  | bad => exact h
theorem evsT_len {es : Exs} {m : Nat} (hm : m = elen es) {σ : L2.St} {H : Hp} {Q : List V → Hp → Prop} (h : evsT C W c es σ H Q) : evsT C W c es σ H fun vs H1 => vs.length = m ∧ Q vs H1 := by
  obtain ⟨F, ρ, hs, hl, w⟩ := h
  exact ⟨F, ρ, hs, hl, w.monoE fun F' H' ds vs st e r q => ⟨by rw [hm, ← r.length]; exact evs_len e, q⟩⟩
theorem cak_of {f : Nat} {es ks : Exs} {ix : List Nat} {σ : L2.St} {H : Hp} {Q : VK} (h : evT C W c (.cak f es ks ix) σ H Q) : evsT C W c es σ H fun vs H1 => evsT C W c ks σ H1 fun zs H2 => ∃ ys, MP.pick ix (vs ++ zs) = some ys ∧ spF C c f ys H2 Q (WE W σ) := by
  obtain ⟨F, ρ, hs, hl, w⟩ := h
  rw [ev] at w
  refine ⟨F, ρ, hs, hl, (Aft.bind w).mono fun F1 H1 ds vs x1 s1 r1 q1 => ⟨F1, ρ, s1, hl.ext x1, (Aft.bind q1).mono fun F2 H2 es zs x2 s2 r2 q2 => ?_⟩⟩
  cases e : MP.pick ix (ds ++ es) with
  | none => rw [e] at q2; exact q2.elim
  | some rs =>
    rw [e] at q2
    obtain ⟨us, e1, e2⟩ := ((r1.ext x2).append r2).pick e
    exact ⟨us, e1, F2, rs, s2, e2, q2⟩
theorem pe_cakF (G : GX T C W c n se X) {f : Nat} {es ks : Exs} {ix : List Nat} {x : Str} {xs : List Expr} {kws : List Keyword} {p pos : Pos} (h1 : T.fns[f]? = some x) (h2 : gloB se.sc x = true) (h3 : okNm x = true) (ha : PA X xs (evsT C W c es)) (hk : PK X kws (evsT C W c ks))
    (hes : okEs T se es xs = true) (hks : okEs T se ks (kws.map (·.value)) = true) (hs : noStars xs = true) (hall : kws.all (fun k => k.arg.isSome) = true) (hix : (f, xs.length, kws.filterMap (·.arg), ix) ∈ T.kws) : PE X (.Call (.Name x p) xs kws pos) (evT C W c (.cak f es ks ix)) := by
  obtain ⟨k1, _, _⟩ := okNm_ok h3
  obtain ⟨hm, hkp, fd, ps, F, _, hb⟩ := G.fns f x h1
  have hl : (kws.filterMap (·.arg)).length = elen ks := by
    rw [← okEs_len hks, List.length_map]
    clear hks hk hix hb
    induction kws with
    | nil => rfl
    | cons k r ih =>
      obtain ⟨a, v, q⟩ := k
      rw [List.all_cons, Bool.and_eq_true] at hall
      cases a with
      | none => cases hall.1
      | some a =>
        show (a :: r.filterMap (·.arg)).length = r.length + 1
        rw [List.length_cons, ih hall.2]
  refine imp_e (pe_cakG F G.gd G.room G.ps (gloB_ok (by rw [G.sc]; exact h2)) hm hkp (hb _ _ _ hix) ha hk (fun σ H Q w => evsT_len (okEs_len hes) w) (fun σ H Q w => evsT_len hl w) (fun e σ H Q w => ?_) hall k1 hs) fun σ H Q w => cak_of w
  subst e
  cases es with
  | nil =>
    obtain ⟨F, ρ, hs, hl, w⟩ := w
    rw [evs] at w
    exact w.ok_now hs rfl
  | cons _ _ => simp [okEs] at hes
end
end MP
end
section
set_option maxRecDepth 100000
set_option maxHeartbeats 4000000
/-! MPSnd12: built-in functions. -/
namespace MP
open PySem L2
variable [Glo]
/-- a built-in function's promise -/
def rBlt (b : Bf) : List V → Hp → VK → Prop := fun vs H Q => ∃ F ds z, Sto F H ∧ Reps F H ds vs ∧ bltD F.st b ds = some z ∧ ∀ H' v, Ext F H F H' → Sto F H' → Rep F H' z v → Q v H'
/-! ### data, for repr -/
theorem thaw_dp {K : PySem.W.Frag} {F : Fr} {H : Hp} (s : Sto F H) : ∀ (n : Nat) (d : D) (v : V) (p : PyData), Rep F H d v → thaw F.st n d = some p → Dp K H v p ∧ p.hasDict = false
  | n, .non, v, p, r, h => by
    rw [thaw] at h
    cases h
    rw [show v = V.non from r]
    exact ⟨.non, rfl⟩
  | n, .bl b, v, p, r, h => by
    rw [thaw] at h
    cases h
    rw [show v = V.bl b from r]
    exact ⟨.bl b, rfl⟩
  | n, .int i, v, p, r, h => by
    rw [thaw] at h
    cases h
    rw [show v = V.int i from r]
    exact ⟨.int i, rfl⟩
  | n, .str z, v, p, r, h => by
    rw [thaw] at h
    cases h
    rw [show v = V.str z from r]
    exact ⟨.str z, rfl⟩
  | n + 1, .lst ds, v, p, r, h => by
    rw [thaw] at h
    obtain ⟨a, vs, e, _, ha, rs⟩ := r
    cases q : mapO (thaw F.st n) ds with
    | none => rw [q] at h; cases h
    | some ps =>
      rw [q] at h
      cases h
      obtain ⟨h1, h2⟩ := thaws_dp (fun d v p => thaw_dp s n d v p) ds vs ps rs q
      rw [e]
      exact ⟨.lst (SqL.of ha) h1, by rw [PyData.hasDict]; exact h2⟩
  | n + 1, .tup ds, v, p, r, h => by
    rw [thaw] at h
    obtain ⟨a, vs, e, _, ha, rs⟩ := r
    cases q : mapO (thaw F.st n) ds with
    | none => rw [q] at h; cases h
    | some ps =>
      rw [q] at h
      cases h
      obtain ⟨h1, h2⟩ := thaws_dp (fun d v p => thaw_dp s n d v p) ds vs ps rs q
      rw [e]
      exact ⟨.tup (SqT.of ha) h1, by rw [PyData.hasDict]; exact h2⟩
  | n + 1, .cel k, v, p, r, h => by
    rw [thaw] at h
    split at h
    · rename_i ds e
      obtain ⟨ev, _⟩ := r
      obtain ⟨vs, ha, rs⟩ := s.ce k _ e
      cases q : mapO (thaw F.st n) ds with
      | none => rw [q] at h; cases h
      | some ps =>
        rw [q] at h
        cases h
        obtain ⟨h1, h2⟩ := thaws_dp (fun d v p => thaw_dp s n d v p) ds vs ps rs q
        rw [ev]
        exact ⟨.lst (SqL.of ha) h1, by rw [PyData.hasDict]; exact h2⟩
    · cases h
  | 0, .lst _, _, _, _, h => by simp [thaw] at h
  | 0, .tup _, _, _, _, h => by simp [thaw] at h
  | 0, .cel _, _, _, _, h => by simp [thaw] at h
  | n, .dic _, _, _, _, h => by cases n <;> simp [thaw] at h
  | n, .scr _, _, _, _, h => by cases n <;> simp [thaw] at h
  | n, .exv _ _, _, _, _, h => by cases n <;> simp [thaw] at h
  | n, .fn _, _, _, _, h => by cases n <;> simp [thaw] at h
where
  thaws_dp {f : D → Option PyData} (hf : ∀ d v p, Rep F H d v → f d = some p → Dp K H v p ∧ p.hasDict = false) : ∀ (ds : List D) (vs : List V) (ps : List PyData), Reps F H ds vs → mapO f ds = some ps → DpAll K H vs ps ∧ PyData.hasDictAll ps = false
    | [], vs, ps, r, h => by
      cases h
      rw [show vs = [] from r]
      exact ⟨.nil, rfl⟩
    | d :: ds, _, ps, ⟨v, r, e, h1, h2⟩, h => by
      subst e
      have h : ((f d).bind fun x => (mapO f ds).map fun xs => x :: xs) = some ps := h
      cases q : f d with
      | none => rw [q] at h; cases h
      | some x =>
        rw [q] at h
        cases q2 : mapO f ds with
        | none => rw [q2] at h; cases h
        | some xs =>
          rw [q2] at h
          cases h
          obtain ⟨k1, k2⟩ := hf d v x h1 q
          obtain ⟨k3, k4⟩ := thaws_dp hf ds r xs h2 q2
          exact ⟨.cons k1 k3, by rw [PyData.hasDictAll, k2, k4]; rfl⟩
theorem data_of {K : PySem.W.Frag} {F : Fr} {H : Hp} {d : D} {v : V} {z : Str} (s : Sto F H) (r : Rep F H d v) (hd : ∀ k, d ≠ .dic k) (h : reprD F.st d = some z) : ∃ p, Dp K H v p ∧ p.hasDict = false ∧ p.showable = true ∧ p.depth ≤ 64 ∧ p.shown.length ≤ line ∧ z = p.shown := by
  have h : ((thaw F.st 9 d).bind fun x => if x.showable && decide (x.depth ≤ 64) && decide (x.shown.length ≤ line) then some x.shown else none) = some z := by
    cases d with
    | dic k => exact absurd rfl (hd k)
    | _ => exact h
  cases q : thaw F.st 9 d with
  | none => rw [q] at h; cases h
  | some p =>
    rw [q] at h
    have h : (if p.showable && decide (p.depth ≤ 64) && decide (p.shown.length ≤ line) then some p.shown else none) = some z := h
    split at h
    · rename_i c
      cases h
      simp only [Bool.and_eq_true, decide_eq_true_eq] at c
      obtain ⟨k1, k2⟩ := thaw_dp (K := K) s 9 d v p r q
      exact ⟨p, k1, k2, c.1.1, c.1.2, c.2, rfl⟩
    · cases h
section
variable {X : Cx} {n : Nat}
theorem vals_1 {x : V} {us : List Value} (r : Vals [x] us) : ∃ u, us = [u] ∧ RelV x u := L2.vals1 r
/-- repr(d) -/
theorem cr_repr (hr : Room n X.A) (hg : X.A.guards = some []) : CallR X (.builtin "repr") (rBlt .repr) := by
  intro pins s σ H xs us Q I r ⟨F, ds, z, hs, rs, hz, q⟩
  rcases ds with _ | ⟨d, _ | ⟨_, _⟩⟩
  · cases hz
  rotate_left
  · cases hz
  obtain ⟨x, _, e, rd, e2⟩ := rs
  rw [show _ = [] from e2] at e
  subst e
  obtain ⟨u, rfl, ru⟩ := vals_1 r
  replace hz : (reprD F.st d).map .str = some z := hz
  cases hq : reprD F.st d with
  | none => rw [hq] at hz; cases hz
  | some z' =>
    rw [hq] at hz
    cases hz
    have un := hr.un
    have fin : ∀ {h' : Heap} {tk t : Nat}, (∀ b o, s.heap.get? b = some o → h'.get? b = some o) → EP X pins σ Q (.str z' t) { s with heap := h', toks := tk } := fun k => ⟨.str z', H, I.kept k, ⟨_, rfl⟩, q H _ (Ext.refl F H) hs rfl⟩
    cases d with
    | dic kvs =>
      cases kvs with
      | cons _ _ => cases hq
      | nil =>
        cases hq
        obtain ⟨a, ws, ea, _, ha, rk⟩ := rd
        rw [show ws = [] from rk] at ha
        subst ea
        cases ru
        obtain ⟨_, lo, vs, kv, m⟩ := dk_of I.hok ha
        cases kv
        obtain ⟨o, es, ep, h1, h2, h3, _, h4, _⟩ := m
        have he : es.toList = [] := by
          cases e : es.toList with
          | nil => rfl
          | cons _ _ => rw [e] at h4; cases h4
        have rr : Reads s.heap (.ref a) (.dict []) (a :: [] ++ []) := .dict h1 h2.1 h3 (by rw [he]; exact .nil) (by rw [he]; exact .nil)
        exact PySem.repr_of_reads' rr rfl (fun _ hm => absurd hm (by simpa using fun z => Bool.false_ne_true (lo.symm.trans (beq_iff_eq.mpr z.symm)))) hg (by show X.A.units + (_ + 1) < cLine; simp [PyData.depth, PyData.depthKv]; omega) (fun _ _ e => e) (fun h' u tk k => fin k) (by decide)
    | _ =>
      obtain ⟨p, dp, nd, sh, dep, sz, ez⟩ := data_of (K := X.K) hs rd (fun k z => nomatch z) hq
      subst ez
      rw [line_eq] at sz
      cases dp with
      | non => cases ru; exact PySem.P.repr_of_none (fin fun _ _ e => e)
      | bl b => cases ru; exact PySem.P.repr_of_bool (fin fun _ _ e => e)
      | int i =>
        obtain ⟨t, rfl⟩ := ru
        exact PySem.P.repr_of_int (by simpa [PyData.showable] using sh) (fin fun _ _ e => e)
      | str z =>
        obtain ⟨t, rfl⟩ := ru
        exact PySem.P.repr_of_str (fin fun _ _ e => e) (by simpa [PyData.shown] using sz)
      | lst h1 h2 =>
        obtain ⟨as, rr⟩ := Dp.reads I _ _ _ (.lst h1 h2) ru
        cases ru
        exact PySem.repr_of_reads' rr sh (PyData.noDict_hsm nd) hg (by omega) (fun _ _ e => e) (fun h' u tk k => fin k) sz
      | tup h1 h2 =>
        obtain ⟨as, rr⟩ := Dp.reads I _ _ _ (.tup h1 h2) ru
        cases ru
        exact PySem.repr_of_reads' rr sh (PyData.noDict_hsm nd) hg (by omega) (fun _ _ e => e) (fun h' u tk k => fin k) sz
end
end MP
end
section
set_option maxRecDepth 100000
set_option maxHeartbeats 4000000
/-! MPSnd13: further built-in functions. -/
namespace MP
open PySem L2
variable [Glo]
section
variable {X : Cx} {n : Nat}
theorem one_rep {F : Fr} {H : Hp} {d : D} {xs : List V} (r : Reps F H [d] xs) : ∃ x, xs = [x] ∧ Rep F H d x := by
  obtain ⟨x, _, e, rd, e2⟩ := r
  rw [show _ = [] from e2] at e
  exact ⟨x, e, rd⟩
theorem two_rep {F : Fr} {H : Hp} {d e : D} {xs : List V} (r : Reps F H [d, e] xs) : ∃ x y, xs = [x, y] ∧ Rep F H d x ∧ Rep F H e y := by
  obtain ⟨x, _, e1, rd, y, _, e2, re, e3⟩ := r
  rw [show _ = [] from e3] at e2
  rw [e2] at e1
  exact ⟨x, y, e1, rd, re⟩
theorem cr_lenF : CallR X (.builtin "len") (rBlt .len) := by
  intro pins s σ H xs us Q I r ⟨F, ds, z, hs, rs, hz, q⟩
  rcases ds with _ | ⟨d, _ | ⟨_, _⟩⟩
  · cases hz
  rotate_left
  · cases hz
  obtain ⟨x, rfl, rd⟩ := one_rep rs
  replace hz : (lenD F.st d).map (fun (n : Nat) => D.int n) = some z := hz
  cases hq : lenD F.st d with
  | none => rw [hq] at hz; cases hz
  | some m =>
    rw [hq] at hz
    cases hz
    refine call_len pins s σ H [x] us Q I r ⟨x, m, rfl, ?_, q H _ (Ext.refl F H) hs rfl⟩
    cases d with
    | tup ds =>
      cases hq
      obtain ⟨a, vs, e, _, ha, rs⟩ := rd
      rw [e]
      exact .inr ⟨vs, SqT.of ha, rs.length⟩
    | lst ds =>
      cases hq
      obtain ⟨a, vs, e, _, ha, rs⟩ := rd
      rw [e]
      exact .inl ⟨vs, SqL.of ha, rs.length⟩
    | scr ns =>
      cases hq
      obtain ⟨a, o, e, _, ha⟩ := rd
      rw [e]
      exact .inl ⟨_, .inl (.inr ⟨o, ha⟩), by rw [List.length_map]⟩
    | str w =>
      have hq : (if w.length ≤ line then some w.length else none) = some m := hq
      split at hq
      · rename_i hl
        cases hq
        rw [line_eq] at hl
        rw [show x = V.str w from rd]
        exact ⟨hl, rfl⟩
      · cases hq
    | cel k =>
      have hq : (match F.st[k]? with
        | some (.lst ds) => some ds.length
        | _ => none) = some m := hq
      split at hq
      · rename_i ds e
        cases hq
        obtain ⟨ev, _⟩ := rd
        obtain ⟨vs, ha, rs⟩ := hs.ce k _ e
        rw [ev]
        exact .inl ⟨vs, SqL.of ha, rs.length⟩
      · cases hq
    | _ => cases hq
theorem cr_anyF (hc : X.calm = true) : CallR X (.builtin "any") (rBlt .any) := by
  intro pins s σ H xs us Q I r ⟨F, ds, z, hs, rs, hz, q⟩
  rcases ds with _ | ⟨d, _ | ⟨_, _⟩⟩
  · cases hz
  rotate_left
  · cases hz
  obtain ⟨x, rfl, rd⟩ := one_rep rs
  replace hz : ((items F.st d).bind blsD).map (fun bs => D.bl (bs.any id)) = some z := hz
  cases hq : (items F.st d).bind blsD with
  | none => rw [hq] at hz; cases hz
  | some bs =>
    rw [hq] at hz
    cases hz
    obtain ⟨a, e, ha⟩ := items_bls hs rd hq
    subst e
    exact cr_any hc pins s σ H _ us Q I r ⟨a, bs, rfl, SqL.of ha, q H _ (Ext.refl F H) hs rfl⟩
theorem cr_allF (hc : X.calm = true) : CallR X (.builtin "all") (rBlt .all) := by
  intro pins s σ H xs us Q I r ⟨F, ds, z, hs, rs, hz, q⟩
  rcases ds with _ | ⟨d, _ | ⟨_, _⟩⟩
  · cases hz
  rotate_left
  · cases hz
  obtain ⟨x, rfl, rd⟩ := one_rep rs
  replace hz : ((items F.st d).bind blsD).map (fun bs => D.bl (bs.all id)) = some z := hz
  cases hq : (items F.st d).bind blsD with
  | none => rw [hq] at hz; cases hz
  | some bs =>
    rw [hq] at hz
    cases hz
    obtain ⟨a, e, ha⟩ := items_bls hs rd hq
    subst e
    exact cr_all hc pins s σ H _ us Q I r ⟨a, bs, rfl, SqL.of ha, q H _ (Ext.refl F H) hs rfl⟩
theorem cr_sumF (hc : X.calm = true) : CallR X (.builtin "sum") (rBlt .sum) := by
  intro pins s σ H xs us Q I r ⟨F, ds, z, hs, rs, hz, q⟩
  rcases ds with _ | ⟨d, _ | ⟨_, _⟩⟩
  · cases hz
  rotate_left
  · cases hz
  obtain ⟨x, rfl, rd⟩ := one_rep rs
  have go : ((items F.st d).bind intsD).map (fun ns => D.int ns.sum) = some z → wpAny (model X.prog X.w) X.A (call (.builtin "sum") us) (EP X pins σ Q) X.xe s := by
    intro hz
    cases hq : (items F.st d).bind intsD with
    | none => rw [hq] at hz; cases hz
    | some ns =>
      rw [hq] at hz
      cases hz
      obtain ⟨a, e, ha⟩ := items_ints hs rd hq
      subst e
      exact cr_sum hc pins s σ H _ us Q I r ⟨a, ns, rfl, SqL.of ha, q H _ (Ext.refl F H) hs rfl⟩
  cases d with
  | scr ns =>
    cases hz
    obtain ⟨a, o, e, _, ha⟩ := rd
    subst e
    exact cr_sum hc pins s σ H _ us Q I r ⟨a, ns, rfl, .inl (.inr ⟨o, ha⟩), q H _ (Ext.refl F H) hs rfl⟩
  | _ => exact go hz
theorem maxI_spec : ∀ {ns : List Int} {m : Int}, maxI ns = some m → m ∈ ns ∧ ∀ y ∈ ns, y ≤ m
  | [], _, h => by cases h
  | [a], m, h => by
    cases h
    exact ⟨by simp, fun y hy => by simp at hy; omega⟩
  | a :: b :: r, m, h => by
    have h : (maxI (b :: r)).map (fun k => if a < k then k else a) = some m := h
    cases q : maxI (b :: r) with
    | none => rw [q] at h; cases h
    | some k =>
      rw [q] at h
      cases h
      obtain ⟨h1, h2⟩ := maxI_spec q
      simp only []
      by_cases hk : a < k
      · rw [if_pos hk]
        refine ⟨List.mem_cons_of_mem _ h1, fun y hy => ?_⟩
        rcases List.mem_cons.mp hy with e | hy
        · omega
        · exact h2 y hy
      · rw [if_neg hk]
        refine ⟨List.mem_cons_self, fun y hy => ?_⟩
        rcases List.mem_cons.mp hy with e | hy
        · omega
        · have := h2 y hy
          omega
theorem cr_maxF (hc : X.calm = true) : CallR X (.builtin "max") (rBlt .max) := by
  intro pins s σ H xs us Q I r ⟨F, ds, z, hs, rs, hz, q⟩
  rcases ds with _ | ⟨d, _ | ⟨_, _⟩⟩
  · cases hz
  rotate_left
  · cases hz
  obtain ⟨x, rfl, rd⟩ := one_rep rs
  replace hz : ((items F.st d).bind intsD).bind (fun ns => (maxI ns).map .int) = some z := hz
  cases hq : (items F.st d).bind intsD with
  | none => rw [hq] at hz; cases hz
  | some ns =>
    rw [hq] at hz
    cases hm : maxI ns with
    | none => rw [show (some ns).bind (fun ns => (maxI ns).map D.int) = (maxI ns).map D.int from rfl, hm] at hz; cases hz
    | some m =>
      rw [show (some ns).bind (fun ns => (maxI ns).map D.int) = (maxI ns).map D.int from rfl, hm] at hz
      cases hz
      obtain ⟨a, e, ha⟩ := items_ints hs rd hq
      subst e
      obtain ⟨m1, m2⟩ := maxI_spec hm
      refine cr_max hc pins s σ H _ us Q I r ⟨a, ns, rfl, SqL.of ha, ?_, fun m' h1 h2 => ?_⟩
      · exact List.length_pos_of_mem m1
      · have e : m' = m := Int.le_antisymm (m2 _ h1) (h2 _ m1)
        subst e
        exact q H _ (Ext.refl F H) hs rfl
theorem cr_max2F (hc : X.calm = true) : CallR X (.builtin "max") (rBlt .max2) := by
  intro pins s σ H xs us Q I r ⟨F, ds, z, hs, rs, hz, q⟩
  rcases ds with _ | ⟨d, _ | ⟨e, _ | ⟨_, _⟩⟩⟩
  · cases hz
  · cases d <;> cases hz
  rotate_left
  · cases d <;> cases e <;> cases hz
  obtain ⟨x, y, rfl, rd, re⟩ := two_rep rs
  cases d <;> cases e <;> first | (cases hz; done) | skip
  cases hz
  exact call_max2 hc pins s σ H _ us Q I r ⟨_, _, by rw [show x = _ from rd, show y = _ from re], q H _ (Ext.refl F H) hs rfl⟩
theorem cr_min2F (hc : X.calm = true) : CallR X (.builtin "min") (rBlt .min2) := by
  intro pins s σ H xs us Q I r ⟨F, ds, z, hs, rs, hz, q⟩
  rcases ds with _ | ⟨d, _ | ⟨e, _ | ⟨_, _⟩⟩⟩
  · cases hz
  · cases d <;> cases hz
  rotate_left
  · cases d <;> cases e <;> cases hz
  obtain ⟨x, y, rfl, rd, re⟩ := two_rep rs
  cases d <;> cases e <;> first | (cases hz; done) | skip
  cases hz
  exact call_min2 hc pins s σ H _ us Q I r ⟨_, _, by rw [show x = _ from rd, show y = _ from re], q H _ (Ext.refl F H) hs rfl⟩
theorem cr_absF : CallR X (.builtin "abs") (rBlt .abs) := by
  intro pins s σ H xs us Q I r ⟨F, ds, z, hs, rs, hz, q⟩
  rcases ds with _ | ⟨d, _ | ⟨_, _⟩⟩
  · cases hz
  rotate_left
  · cases d <;> cases hz
  obtain ⟨x, rfl, rd⟩ := one_rep rs
  cases d <;> first | (cases hz; done) | skip
  cases hz
  exact call_abs pins s σ H _ us Q I r ⟨_, by rw [show x = _ from rd], q H _ (Ext.refl F H) hs rfl⟩
theorem cr_ordF : CallR X (.builtin "ord") (rBlt .ord) := by
  intro pins s σ H xs us Q I r ⟨F, ds, z, hs, rs, hz, q⟩
  rcases ds with _ | ⟨d, _ | ⟨_, _⟩⟩
  · cases hz
  rotate_left
  · cases d <;> cases hz
  obtain ⟨x, rfl, rd⟩ := one_rep rs
  cases d with
  | str w =>
    have hz : (if w.length = 1 then some (D.int (w.cps.getD 0 0 : Nat)) else none) = some z := hz
    split at hz
    · cases hz
      exact call_ord pins s σ H _ us Q I r ⟨_, by rw [show x = _ from rd], by assumption, q H _ (Ext.refl F H) hs rfl⟩
    · cases hz
  | _ => cases hz
theorem cr_intF : CallR X (.type "int") (rBlt .int) := by
  intro pins s σ H xs us Q I r ⟨F, ds, z, hs, rs, hz, q⟩
  rcases ds with _ | ⟨d, _ | ⟨_, _⟩⟩
  · cases hz
  rotate_left
  · cases d <;> cases hz
  obtain ⟨x, rfl, rd⟩ := one_rep rs
  cases d with
  | int i =>
    cases hz
    exact call_int1 pins s σ H _ us Q I r (.inl ⟨_, by rw [show x = _ from rd], q H _ (Ext.refl F H) hs rfl⟩)
  | bl k =>
    cases hz
    exact call_int1 pins s σ H _ us Q I r (.inr ⟨_, by rw [show x = _ from rd], q H _ (Ext.refl F H) hs rfl⟩)
  | str w =>
    have hz : (if w.length ≤ 640 then (intText? w).map D.int else none) = some z := hz
    split at hz
    · cases ht : intText? w with
      | none => rw [ht] at hz; cases hz
      | some m =>
        rw [ht] at hz
        cases hz
        exact call_int_str pins s σ H _ us Q I r ⟨w, m, by rw [show x = _ from rd], ht, by assumption, q H _ (Ext.refl F H) hs rfl⟩
    · cases hz
  | _ => cases hz
theorem cr_listF : CallR X (.type "list") (rBlt .list) := by
  intro pins s σ H xs us Q I r ⟨F, ds, z, hs, rs, hz, q⟩
  rcases ds with _ | ⟨d, _ | ⟨_, _⟩⟩
  · cases hz
  rotate_left
  · cases hz
  obtain ⟨x, rfl, rd⟩ := one_rep rs
  have go : (items F.st d).map .lst = some z → wpAny (model X.prog X.w) X.A (call (.type "list") us) (EP X pins σ Q) X.xe s := by
    intro hz
    cases hi : items F.st d with
    | none => rw [hi] at hz; cases hz
    | some es =>
      rw [hi] at hz
      cases hz
      obtain ⟨a, vs, ea, ha, rs'⟩ := items_rep hs rd hi
      subst ea
      exact call_list_of pins s σ H _ us Q I r ⟨a, vs, rfl, .inl (SqL.of ha), fun l hl => q _ _ (Ext.fresh F _ hl) (hs.fresh _ hl) (Rep.newL hs hl rs')⟩
  cases d with
  | tup es =>
    cases hz
    obtain ⟨a, vs, ea, _, ha, rs'⟩ := rd
    subst ea
    exact call_list_of pins s σ H _ us Q I r ⟨a, vs, rfl, .inr (SqT.of ha), fun l hl => q _ _ (Ext.fresh F _ hl) (hs.fresh _ hl) (Rep.newL hs hl rs')⟩
  | _ => exact go hz
theorem cr_tupleF : CallR X (.type "tuple") (rBlt .tuple) := by
  intro pins s σ H xs us Q I r ⟨F, ds, z, hs, rs, hz, q⟩
  rcases ds with _ | ⟨d, _ | ⟨_, _⟩⟩
  · cases hz
  rotate_left
  · cases hz
  obtain ⟨x, rfl, rd⟩ := one_rep rs
  have go : (items F.st d).map .tup = some z → wpAny (model X.prog X.w) X.A (call (.type "tuple") us) (EP X pins σ Q) X.xe s := by
    intro hz
    cases hi : items F.st d with
    | none => rw [hi] at hz; cases hz
    | some es =>
      rw [hi] at hz
      cases hz
      obtain ⟨a, vs, ea, ha, rs'⟩ := items_rep hs rd hi
      subst ea
      exact call_tuple_of pins s σ H _ us Q I r ⟨a, vs, rfl, .inl ⟨SqL.of ha, fun l hl => q _ _ (Ext.fresh F _ hl) (hs.fresh _ hl) (Rep.newT hs hl rs')⟩⟩
  cases d with
  | tup es =>
    cases hz
    obtain ⟨a, vs, ea, hu, ha, rs'⟩ := rd
    subst ea
    exact call_tuple_of pins s σ H _ us Q I r ⟨a, vs, rfl, .inr ⟨SqT.of ha, q _ _ (Ext.refl F H) hs ⟨a, vs, rfl, hu, ha, rs'⟩⟩⟩
  | _ => exact go hz
theorem cr_strF (hr : Room n X.A) (hg : X.A.guards = some []) : CallR X (.type "str") (rBlt .str) := by
  intro pins s σ H xs us Q I r ⟨F, ds, z, hs, rs, hz, q⟩
  rcases ds with _ | ⟨d, _ | ⟨_, _⟩⟩
  · cases hz
  rotate_left
  · cases hz
  obtain ⟨x, rfl, rd⟩ := one_rep rs
  have un := hr.un
  have go : (∀ k, d ≠ .dic k) → (∀ k, d ≠ .str k) → (∀ k, d ≠ .int k) → (∃ a, x = .ref a) → (reprD F.st d).map .str = some z → wpAny (model X.prog X.w) X.A (call (.type "str") us) (EP X pins σ Q) X.xe s := by
    intro h1 _ _ ⟨a, ea⟩ hz
    subst ea
    cases hq : reprD F.st d with
    | none => rw [hq] at hz; cases hz
    | some w =>
      rw [hq] at hz
      cases hz
      obtain ⟨u, rfl, ru⟩ := vals_1 r
      cases ru
      obtain ⟨p, dp, nd, sh, dep, sz, ez⟩ := data_of (K := X.K) hs rd h1 hq
      subst ez
      rw [line_eq] at sz
      have fin : ∀ {h' : Heap} {tk t : Nat}, (∀ b o, s.heap.get? b = some o → h'.get? b = some o) → EP X pins σ Q (.str p.shown t) { s with heap := h', toks := tk } := fun k => ⟨.str p.shown, H, I.kept k, ⟨_, rfl⟩, q H _ (Ext.refl F H) hs rfl⟩
      obtain ⟨as, rr⟩ := Dp.reads I p (.ref a) (.ref a) dp rfl
      exact PySem.str_of_reads rr sh (PyData.noDict_hsm nd) hg (by omega) (fun _ _ e => e) (fun h' u tk k => fin k) sz
  cases d with
  | int i =>
    have hz : (if i.natAbs.log2 < 1920 then some (D.str (toString i)) else none) = some z := hz
    split at hz
    · cases hz
      exact call_str_int pins s σ H _ us Q I r ⟨i, by rw [show x = _ from rd], by assumption, q H _ (Ext.refl F H) hs rfl⟩
    · cases hz
  | str w =>
    cases hz
    exact SkE.call_str_str pins s σ H _ us Q I r ⟨w, by rw [show x = _ from rd], q H _ (Ext.refl F H) hs rfl⟩
  | lst es => exact go (fun _ z => nomatch z) (fun _ z => nomatch z) (fun _ z => nomatch z) (by obtain ⟨a, _, e, _⟩ := rd; exact ⟨a, e⟩) hz
  | cel k => exact go (fun _ z => nomatch z) (fun _ z => nomatch z) (fun _ z => nomatch z) (by obtain ⟨e, _⟩ := rd; exact ⟨_, e⟩) hz
  | _ => cases hz
end
end MP
end
section
set_option maxRecDepth 100000
set_option maxHeartbeats 4000000
/-! MPSnd14: sorted, isinstance. -/
namespace MP
open PySem L2
variable [Glo]
theorem each_rep {F : Fr} {H : Hp} : ∀ {ds : List D} {xs : List V} {us : List Value}, Reps F H ds xs → Vals xs us → PySem.W.EachIs (fun u d => ∃ x, RelV x u ∧ Rep F H d x) us ds
  | [], xs, us, r, v => by
    rw [show xs = [] from r] at v
    cases v
    exact .nil
  | d :: ds, _, us, ⟨x, r, e, h1, h2⟩, v => by
    subst e
    cases v with
    | cons v1 v2 => exact .cons ⟨x, v1, h1⟩ (each_rep h2 v2)
theorem rep_each {F : Fr} {H : Hp} : ∀ {ds : List D} {us : List Value}, PySem.W.EachIs (fun u d => ∃ x, RelV x u ∧ Rep F H d x) us ds → ∃ xs, Vals xs us ∧ Reps F H ds xs
  | [], _, h => by
    cases h
    exact ⟨[], .nil, rfl⟩
  | d :: ds, _, h => by
    cases h with
    | cons h1 h2 =>
      obtain ⟨x, r1, r2⟩ := h1
      obtain ⟨xs, q1, q2⟩ := rep_each h2
      exact ⟨x :: xs, .cons r1 q1, x, xs, rfl, r2, q2⟩
section
variable {X : Cx} {n : Nat}
theorem cr_sortedF (hr : Room n X.A) : CallR X (.builtin "sorted") (rBlt .sorted) := by
  intro pins s σ H xs us Q I r ⟨F, ds, z, hs, rs, hz, q⟩
  rcases ds with _ | ⟨d, _ | ⟨_, _⟩⟩
  · cases hz
  rotate_left
  · cases hz
  obtain ⟨x, rfl, rd⟩ := one_rep rs
  have hz : (match snap F.st d with
    | some (.lst ds) => if alikeAll (toPs ds) && sortB (toPs ds) && deepOk (toPs ds) && decide (ds.length ≤ line) then some (D.lst (ds.mergeSort (PySem.W.dataLe false toP))) else none
    | _ => none) = some z := hz
  split at hz
  · rename_i es hsn
    split at hz
    · rename_i c
      cases hz
      simp only [Bool.and_eq_true, decide_eq_true_eq] at c
      obtain ⟨⟨⟨c1, c2⟩, c3⟩, c4⟩ := c
      rw [line_eq] at c4
      rw [toPs_map] at c1 c2 c3
      -- the list, its items
      have it : items F.st d = some es := by
        unfold snap at hsn
        split at hsn
        · rename_i k
          split at hsn
          · rename_i fs e
            split at hsn
            · cases hsn
              show (match F.st[k]? with | some (.lst ds) => some ds | _ => none) = some es
              rw [e]
            · cases hsn
          · cases hsn
        · split at hsn
          · cases hsn
            rfl
          · cases hsn
      have hpu : pureDs es = true := by
        have := (snap_dp (K := X.K) hs rd hsn).2
        rw [pureD] at this
        exact this
      obtain ⟨a, vs, ea, ha, rs'⟩ := items_rep hs rd it
      subst ea
      obtain ⟨u, rfl, ru⟩ := vals_1 r
      cases ru
      obtain ⟨its, rv, pl, _⟩ := I.list (SqL.of ha)
      have er : PySem.W.EachIs (fun v b => ∃ as, Reads s.heap v (toP b) as) its es := by
        have go : ∀ (es : List D) (vs : List V) (its : List Value), pureDs es = true → Reps F H es vs → Vals vs its → PySem.W.EachIs (fun v b => ∃ as, Reads s.heap v (toP b) as) its es := by
          intro es
          induction es with
          | nil =>
            intro vs its _ r v
            rw [show vs = [] from r] at v
            cases v
            exact .nil
          | cons e es ih =>
            intro vs its hp r v
            obtain ⟨x, r', e1, h1, h2⟩ := r
            subst e1
            rw [pureDs, Bool.and_eq_true] at hp
            cases v with
            | cons v1 v2 => exact .cons (Dp.reads I _ _ _ (h1.dp _ _ hp.1) v1) (ih _ _ hp.2 h2 v2)
        exact go es vs its hpu rs' rv
      refine PySem.W.sorted_data (bs := es) (enc := toP) pl.isList (each_rep rs' rv) er ?_ ?_ c4 (fun b hb => ?_) fun out h1 h2 => ?_
      · intro p hp p' hp'
        unfold alikeAll at c1
        rw [List.all_eq_true] at c1
        have c1 := c1 p hp
        rw [List.all_eq_true] at c1
        exact c1 p' hp'
      · unfold sortB at c2
        rw [Bool.or_eq_true, List.all_eq_true, List.all_eq_true] at c2
        rcases c2 with c2 | c2
        · refine .inl fun p hp => ?_
          have c := c2 p hp
          split at c
          · exact ⟨_, _, rfl⟩
          · cases c
        · refine .inr fun p hp => ?_
          have c := c2 p hp
          split at c
          · cases c
          · cases c
          · rename_i h1 h2
            exact ⟨fun z => h1 z, fun ys z => h2 ys z⟩
      · unfold deepOk at c3
        rw [List.all_eq_true] at c3
        have c := c3 (toP b) (List.mem_map.mpr ⟨b, hb, rfl⟩)
        rw [decide_eq_true_eq] at c
        have := hr.un
        omega
      · obtain ⟨ws, q1, q2⟩ := rep_each h2
        obtain ⟨ep, he'⟩ := PyProof.Rows.sortedAll_at s.heap its (List.toArray out)
        have hp : H (s.heap.objs.size + 1) = none := I.hok.fresh (Nat.le_succ _)
        have hlen : ws.length ≤ sizeLine := by rw [q1.length, h1]; exact c4
        refine ⟨.ref _, upd H (s.heap.objs.size + 1) (.lst ws), I.laid (t' := s.toks) (fun _ _ => PyProof.Rows.sortedAll_old) (Nat.le_succ _) ⟨hlen, out, ep, q1, ?_⟩, rfl, q _ _ (Ext.fresh F _ hp) (hs.fresh _ hp) (Rep.newL hs hp q2)⟩
        simpa using he'
    · cases hz
  · cases hz
end
end MP
end
section
set_option maxRecDepth 100000
set_option maxHeartbeats 4000000
/-! MPSnd15: isinstance; list(range(..)). -/
namespace MP
open PySem L2
variable [Glo]
/-- a value's type -/
def tyOf (st : Store) : D → Option String
  | .non => some "NoneType"
  | .bl _ => some "bool"
  | .int _ => some "int"
  | .str _ => some "str"
  | .lst _ => some "list"
  | .tup _ => some "tuple"
  | .dic _ => some "dict"
  | .cel k => match st[k]? with
    | some (.lst _) => some "list"
    | some (.dic _) => some "dict"
    | _ => none
  | _ => none
def tyS : Ty → String
  | .int => "int"
  | .bool => "bool"
  | .str => "str"
  | .list => "list"
  | .tuple => "tuple"
  | .dict => "dict"
  | .exc _ => ""
theorem kits : ∀ t ∈ [Ty.int, .bool, .str, .list, .tuple, .dict], ∀ a ∈ ["NoneType", "bool", "int", "str", "list", "tuple", "dict"], kitB a (tyS t) = some (decide (a = tyS t) || (decide (a = "bool") && decide (tyS t = "int"))) := by
  decide +kernel
theorem boots : ∀ t ∈ [Ty.int, .bool, .str, .list, .tuple, .dict], bootBuiltins (tyName t) = some (.type (tyS t)) ∧ tyName t ∈ bnames ∧ tyName t ≠ "__name__" ∧ (tyName t == ("__debug__" : Str)) = false := by
  decide +kernel
theorem ty_mem {t : Ty} (h : isE t = false) : t ∈ [Ty.int, .bool, .str, .list, .tuple, .dict] := by
  cases t <;> first | (simp; done) | cases h
section
variable {T : Tab} {C : Nat → Addr} {W : WX} {c : Cxt} {n : Nat} {se : SE} {X : Cx}
theorem okNm_ty {t : Ty} (h : isE t = false) (G : GX T C W c n se X) : X.mg (tyName t) = none := G.bl _ (boots t (ty_mem h)).2.1
theorem tyOf_one {K : PySem.W.Frag} {F : Fr} {H : Hp} {d : D} {v : V} {b : Bool} {t : Ty} (s : Sto F H) (r : Rep F H d v) (ht : isE t = false) (h : tyIs F.st t d = some b) : ∃ a, TyX K H v (.type a) ∧ ∀ t b, isE t = false → tyIs F.st t d = some b → kitB a (tyS t) = some b := by
  have fin : ∀ a, a ∈ ["NoneType", "bool", "int", "str", "list", "tuple", "dict"] → TyX K H v (.type a) → (∀ t b, isE t = false → tyIs F.st t d = some b → (decide (a = tyS t) || (decide (a = "bool") && decide (tyS t = "int"))) = b) → ∃ a, TyX K H v (.type a) ∧ ∀ t b, isE t = false → tyIs F.st t d = some b → kitB a (tyS t) = some b :=
    fun a ha x e => ⟨a, x, fun t b h1 h2 => by rw [kits t (ty_mem h1) a ha, e t b h1 h2]⟩
  cases d with
  | non =>
    rw [show v = V.non from r]
    rw [show v = V.non from r] at fin
    exact fin "NoneType" (by decide) (.base .non) fun t b h1 h2 => by cases t <;> first | (cases h1; done) | (cases h2; decide)
  | bl x =>
    rw [show v = V.bl x from r]
    rw [show v = V.bl x from r] at fin
    exact fin "bool" (by decide) (.base (.bl x)) fun t b h1 h2 => by cases t <;> first | (cases h1; done) | (cases h2; decide)
  | int x =>
    rw [show v = V.int x from r]
    rw [show v = V.int x from r] at fin
    exact fin "int" (by decide) (.base (.int x)) fun t b h1 h2 => by cases t <;> first | (cases h1; done) | (cases h2; decide)
  | str x =>
    rw [show v = V.str x from r]
    rw [show v = V.str x from r] at fin
    exact fin "str" (by decide) (.base (.str x)) fun t b h1 h2 => by cases t <;> first | (cases h1; done) | (cases h2; decide)
  | lst x =>
    obtain ⟨a, vs, e, _, ha, _⟩ := r
    subst e
    exact fin "list" (by decide) (.base (.lst ha)) fun t b h1 h2 => by cases t <;> first | (cases h1; done) | (cases h2; decide)
  | tup x =>
    obtain ⟨a, vs, e, _, ha, _⟩ := r
    subst e
    exact fin "tuple" (by decide) (.base (.tup ha)) fun t b h1 h2 => by cases t <;> first | (cases h1; done) | (cases h2; decide)
  | dic x =>
    obtain ⟨a, vs, e, _, ha, _⟩ := r
    subst e
    exact fin "dict" (by decide) (.base (.dK ha)) fun t b h1 h2 => by cases t <;> first | (cases h1; done) | (cases h2; decide)
  | cel k =>
    obtain ⟨e, _⟩ := r
    subst e
    have hh : ∀ t, tyIs F.st t (.cel k) = (match F.st[k]? with
      | some (.lst _) => some (match t with | .list => true | _ => false)
      | some (.dic _) => some (match t with | .dict => true | _ => false)
      | _ => none) := fun t => rfl
    rw [hh] at h
    split at h
    · rename_i ds e
      obtain ⟨vs, ha, _⟩ := s.ce k _ e
      exact fin "list" (by decide) (.base (.lst ha)) fun t b h1 h2 => by
        rw [hh, e] at h2
        cases t <;> first | (cases h1; done) | (cases h2; decide)
    · rename_i ds e
      obtain ⟨vs, ha, _⟩ := s.ce k _ e
      exact fin "dict" (by decide) (.base (.dK ha)) fun t b h1 h2 => by
        rw [hh, e] at h2
        cases t <;> first | (cases h1; done) | (cases h2; decide)
    · cases h
  | _ => cases h
/-- isinstance(y, T) -/
theorem pe_isiF (G : GX T C W c n se X) {t : Ty} (ht : isE t = false) {e : Ex} {y : Expr} {p q pos : Pos} (g1 : gloB se.sc "isinstance" = true) (g2 : gloB se.sc (tyName t) = true) (hy : PE X y (evT C W c e)) (hsy : isStar y = false) :
    PE X (.Call (.Name "isinstance" p) [y, .Name (tyName t) q] [] pos) (evT C W c (.blt (.isi t) (.cons e .nil))) := by
  obtain ⟨b1, b2, b3, b4⟩ := boots t (ty_mem ht)
  refine imp_e (pe_callB call_isi (gloB_ok (by rw [G.sc]; exact g1)) (G.bl _ (by decide)) PyProof.Rows.boot_isinstance (pa_cons hy (pa_cons (pe_bltn (v := .ty (tyS t)) (gloB_ok (by rw [G.sc]; exact g2)) (okNm_ty ht G) b1 rfl b3 b4) pa_nil) (star_cons hsy)) (by decide) (by decide) (star_cons hsy) (by rfl)) fun σ H Q ⟨F, ρ, hs, hl, w⟩ => ?_
  rw [ev, evs1, bind_assoc] at w
  refine ⟨F, ρ, hs, hl, (Aft.bind w).mono fun F1 H1 d v x1 s1 r1 q1 => ?_⟩
  have e1 : isiD F1.st t d = tyIs F1.st t d := by cases t <;> first | rfl | cases ht
  have q1 : Aft Rep C _ F1 H1 (ofO ((isiD F1.st t d).map D.bl) F1.st) _ := q1
  rw [e1] at q1
  cases hq : tyIs F1.st t d with
  | none => rw [hq] at q1; exact q1.elim
  | some b =>
    rw [hq] at q1
    obtain ⟨a, hx, hk⟩ := tyOf_one (K := X.K) s1 r1 ht hq
    exact ⟨v, .ty (tyS t), _, _, b, rfl, .ty (tyS t), hx, kit_ty (hk t b ht hq), q1.val s1 rfl⟩
/-- isinstance(y, (T, ..)) -/
theorem kit_all {K : PySem.W.Frag} {F : Fr} {H : Hp} {d : D} {v : V} {a : String} (s : Sto F H) (r : Rep F H d v) (hx : ∀ t b, isE t = false → tyIs F.st t d = some b → kitB a (tyS t) = some b) : ∀ {ts : List Ty} {b : Bool}, ts.all (fun t => !isE t) = true → tysIs F.st ts d = some b → PySem.W.kitAny K (.type a) (ts.map fun t => Value.type (tyS t)) = some b
  | [], b, _, h => by
    cases h
    exact kitAny_nil
  | t :: ts, b, ht, h => by
    rw [List.all_cons, Bool.and_eq_true, Bool.not_eq_true'] at ht
    have h : (match tyIs F.st t d, tysIs F.st ts d with
      | some a, some b => some (a || b)
      | _, _ => none) = some b := h
    split at h
    · rename_i x y e1 e2
      cases h
      have ih := kit_all (K := K) s r hx ht.2 e2
      refine kitAny_cons (kit_ty (hx t x ht.1 e1)) (fun hb => ?_) fun hb => ?_
      · subst hb
        exact ih
      · subst hb
        rfl
    · cases h
theorem vals_ty : ∀ ts : List Ty, Paired ClsV (ts.map fun t => V.ty (tyS t)) (ts.map fun t => Value.type (tyS t))
  | [] => .nil
  | t :: ts => .cons (.ty _) (vals_ty ts)
theorem pa_tys (G : GX T C W c n se X) : ∀ {ts : List Ty} {zs : List Expr}, zs.map asName = ts.map (fun t => some (tyName t)) → (∀ t ∈ ts, isE t = false ∧ gloB se.sc (tyName t) = true) → PA X zs (fun _ H Q => Q (ts.map fun t => V.ty (tyS t)) H)
  | [], [], _, _ => pa_nil
  | [], _ :: _, h, _ => by cases h
  | _ :: _, [], h, _ => by cases h
  | t :: ts, z :: zs, h, ht => by
    rw [List.map_cons, List.map_cons] at h
    injection h with h1 h2
    obtain ⟨q, rfl⟩ := asName_eq h1
    obtain ⟨k1, k2⟩ := ht t List.mem_cons_self
    obtain ⟨b1, b2, b3, b4⟩ := boots t (ty_mem k1)
    exact imp_a (pa_cons (pe_bltn (v := .ty (tyS t)) (gloB_ok (by rw [G.sc]; exact k2)) (okNm_ty k1 G) b1 rfl b3 b4) (pa_tys G h2 fun t ht' => ht t (List.mem_cons_of_mem _ ht'))) fun σ H Q w => w
theorem pe_isisF (G : GX T C W c n se X) {ts : List Ty} {zs : List Expr} {e : Ex} {y : Expr} {k : Nat} {p q pos : Pos} (g1 : gloB se.sc "isinstance" = true) (hz : zs.map asName = ts.map fun t => some (tyName t)) (ht : ∀ t ∈ ts, isE t = false ∧ gloB se.sc (tyName t) = true) (hne : ts ≠ []) (hl9 : ts.length ≤ line) (hy : PE X y (evT C W c e)) (hsy : isStar y = false) :
    PE X (.Call (.Name "isinstance" p) [y, .Tuple zs k q] [] pos) (evT C W c (.blt (.isis ts) (.cons e .nil))) := by
  refine imp_e (pe_callB call_isiT (gloB_ok (by rw [G.sc]; exact g1)) (G.bl _ (by decide)) PyProof.Rows.boot_isinstance (pa_cons hy (pa_cons (pe_tup (pa_tys G hz ht)) pa_nil) (star_cons hsy)) (by decide) (by decide) (star_cons hsy) (by rfl)) fun σ H Q ⟨F, ρ, hs, hl, w⟩ => ?_
  rw [ev, evs1, bind_assoc] at w
  refine ⟨F, ρ, hs, hl, (Aft.bind w).mono fun F1 H1 d v x1 s1 r1 q1 => ?_⟩
  have q1 : Aft Rep C _ F1 H1 (ofO ((tysIs F1.st ts d).map D.bl) F1.st) _ := q1
  refine ⟨by rw [List.length_map, ← line_eq]; exact hl9, fun p hp => ?_⟩
  cases hq : tysIs F1.st ts d with
  | none => rw [hq] at q1; exact q1.elim
  | some b =>
    rw [hq] at q1
    have xf := Ext.fresh F1 (.tup (ts.map fun t => V.ty (tyS t))) hp
    obtain ⟨t0, ts', e0⟩ := List.exists_cons_of_ne_nil hne
    have h0 : ∃ b0, tyIs F1.st t0 d = some b0 := by
      rw [e0] at hq
      have hq : (match tyIs F1.st t0 d, tysIs F1.st ts' d with
        | some a, some b => some (a || b)
        | _, _ => none) = some b := hq
      split at hq
      · rename_i e1 _
        exact ⟨_, e1⟩
      · cases hq
    obtain ⟨b0, h0⟩ := h0
    obtain ⟨a, hx, hk⟩ := tyOf_one (K := X.K) (s1.fresh _ hp) (r1.ext xf) (ht t0 (by rw [e0]; exact List.mem_cons_self)).1 h0
    refine ⟨v, p, _, _, _, b, rfl, upd_same, vals_ty ts, hx, kit_all s1 r1 hk ?_ hq, ?_⟩
    · rw [List.all_eq_true]
      intro t hm
      rw [(ht t hm).1]
      rfl
    · exact q1 F1 _ _ rfl xf (s1.fresh _ hp) rfl
/-! ### exceptions that are held -/
theorem exv_at {pins : List (Addr × Obj)} {s : Shared} {σ : L2.St} {F : Fr} {H : Hp} {k : Nat} {d : D} {v : V} (G : GX T C W c n se X) (I : L2.Inv X pins σ H s) (r : Rep F H (.exv k d) v) :
    k < T.exc.length ∧ ∃ a u o od w, v = .ref a ∧ PySem.W.InstAt s.heap a o (Glo.cl k) (some od) ∧ PySem.W.lookIn ("value" : Str) od = some (some w) ∧ RelV u w ∧ ExF X.K (Glo.cl k) ∧ Rep F H d u := by
  obtain ⟨hk, a, dx, u, e, _, ha, _, hd, hr⟩ := r
  rw [G.nx] at hk
  obtain ⟨_, _, ex⟩ := G.exc k _ (List.getElem?_eq_getElem hk)
  obtain ⟨⟨o, vs, h1, h2, h3, h4⟩, _⟩ := (show ObjOk X.prog X.w H s.heap a (ExAt (Glo.cl k) dx a) from I.hok a _ ha)
  have hx : ObjOk X.prog X.w H s.heap dx (.xd [(("value" : Str), u)]) := I.hok dx _ hd
  obtain ⟨mA, hns, hrel⟩ := hx
  obtain ⟨od, ho, hl⟩ := lookIn_ns hns
  obtain ⟨w, hw, rw'⟩ := RelO.some_of (v := u) (o := mA ("value" : Str)) (hrel ("value" : Str))
  exact ⟨hk, a, u, o, od, w, e, ⟨h1, h2, by unfold PySem.W.notCls; rw [h4] <;> rfl, by rw [h3]; exact ho⟩, by rw [hl, hw], rw', ex, hr⟩
/-- isinstance(y, C) of one that is held -/
theorem pe_isixF (G : GX T C W c n se X) {k : Nat} {e : Ex} {y : Expr} {x : Str} {p q pos : Pos} (g1 : gloB se.sc "isinstance" = true) (hx : T.exc[k]? = some x) (g2 : gloB se.sc x = true) (g3 : okNm x = true) (hy : PE X y (evT C W c e)) (hsy : isStar y = false) :
    PE X (.Call (.Name "isinstance" p) [y, .Name x q] [] pos) (evT C W c (.blt (.isi (.exc k)) (.cons e .nil))) := by
  obtain ⟨k1, _, _⟩ := okNm_ok g3
  obtain ⟨hm, _, _⟩ := G.exc k x hx
  have rule : CallR X (.builtin "isinstance") (fun xs H Q => ∃ F j d v b, xs = [v, .ref (Glo.cl k)] ∧ Rep F H (.exv j d) v ∧ b = (decide (j = k) || decide (k = 0)) ∧ Q (.bl b) H) := by
    intro pins s σ H xs us Q I r ⟨F, j, d, v, b, ex, rd, eb, qq⟩
    subst ex
    obtain ⟨hj, a, u, o, od, w, ev, J, _, _, ef, _⟩ := exv_at G I rd
    subst ev
    obtain ⟨u1, u2, rfl, r1, r2⟩ := vals2 r
    cases r1
    cases r2
    have hk : k < T.exc.length := (List.getElem?_eq_some_iff.mp hx).1
    have e1 := G.exk j k hj hk
    rw [← eb] at e1
    exact PySem.W.kia_one (PySem.W.kitx_exc ef.cls ef.ga ef.gt ef.sub ef.cl G.sp.1 G.sp.2 ef.ob) I.kIn J e1 (fun z => nomatch z) fun tk => ⟨.bl b, H, I.tok tk, rfl, qq⟩
  refine imp_e (pe_callB rule (gloB_ok (by rw [G.sc]; exact g1)) (G.bl _ (by decide)) PyProof.Rows.boot_isinstance (pa_cons hy (pa_cons (pe_glob (v := .ref (Glo.cl k)) (gloB_ok (by rw [G.sc]; exact g2)) hm rfl k1) pa_nil) (star_cons hsy)) (by decide) (by decide) (star_cons hsy) (by rfl)) fun σ H Q ⟨F, ρ, hs, hl, w⟩ => ?_
  rw [ev, evs1, bind_assoc] at w
  refine ⟨F, ρ, hs, hl, (Aft.bind w).mono fun F1 H1 d v x1 s1 r1 q1 => ?_⟩
  have q1 : Aft Rep C _ F1 H1 (ofO ((isX k d).map D.bl) F1.st) _ := q1
  cases d with
  | exv j d => exact ⟨F1, j, d, v, _, rfl, r1, rfl, q1.val s1 rfl⟩
  | _ => exact q1.elim
/-- e.value of one that is held -/
theorem pe_valF (G : GX T C W c n se X) {e : Ex} {y : Expr} {pos : Pos} (hy : PE X y (evT C W c e)) (hb : baseB y = true) : PE X (.Attribute y "value" pos) (evT C W c (.val e)) := by
  refine ⟨fun pins s σ H Q I ⟨F, ρ, hs, hl, w⟩ => ?_⟩
  rw [ev] at w
  refine attr_of (baseB_ok hb) (thn (hy.run pins s σ H (fun v H1 => ∃ F1 k d, Sto F1 H1 ∧ Rep F1 H1 (.exv k d) v ∧ ∀ u, Rep F1 H1 d u → Q u H1) I ⟨F, ρ, hs, hl, (Aft.bind w).mono fun F1 H1 d v x1 s1 r1 q1 => ?_⟩) fun u s1 ⟨v, H1, I1, r1, F1, k, d, s1', rd, q⟩ => ?_)
  · cases d with
    | exv k d => exact ⟨F1, k, d, s1, r1, fun u r => q1.val s1 r⟩
    | _ => exact q1.elim
  · obtain ⟨hk, a, u', o, od, wv, ev, J, hl, ru, ef, hr⟩ := exv_at G I1 rd
    subst ev
    obtain rfl : u = Value.ref a := r1
    exact HandSPX.exc_get I1.kIn J ef.ga ef.gt ef.sub (PySem.W.findObj_own ef.dct ef.val rfl hl) (handed_of ru) ⟨u', H1, I1.tok _, ru, q u' hr⟩
end
end MP
end
section
set_option maxRecDepth 100000
set_option maxHeartbeats 4000000
/-! MPSnd16: cells: written, new, frozen; methods. -/
namespace MP
open PySem L2
variable [Glo]
theorem live_set {st : Store} {k j : Nat} {o o' : Cell} (h : st[k]? = some o) (ho : o ≠ .gone) (l : Live (st.set k o') j) : Live st j := by
  obtain ⟨c, e, hc⟩ := l
  rw [List.getElem?_set] at e
  by_cases hj : k = j
  · subst hj
    exact ⟨o, h, ho⟩
  · rw [if_neg hj] at e
    exact ⟨c, e, hc⟩
/-- a cell is written -/
theorem cell_write {F : Fr} {H : Hp} {k : Nat} {o : Cell} {ds : List D} {vs : List V} (s : Sto F H) (h : F.st[k]? = some o) (ho : o ≠ .gone) (r : Reps F H ds vs) :
    Ext F H { F with st := F.st.set k (.lst ds) } (upd H (F.al k) (.lst vs)) ∧ Sto { F with st := F.st.set k (.lst ds) } (upd H (F.al k) (.lst vs)) := by
  have lk : Live F.st k := ⟨o, h, ho⟩
  have hk := lk.lt
  have hat : ∃ u, H (F.al k) = some u := Option.ne_none_iff_exists'.mp (s.there lk)
  obtain ⟨u, hu⟩ := hat
  have x : Ext F H { F with st := F.st.set k (.lst ds) } (upd H (F.al k) (.lst vs)) := by
    refine ⟨fun _ _ => rfl, fun _ _ => Iff.rfl, by simp, fun j _ l => live_set h ho l, fun j hj l => absurd (live_set h ho l).lt (Nat.not_lt.mpr hj), fun a e => ?_, fun a w e hn => ?_⟩
    · by_cases q : a = F.al k
      · rw [q, upd_same] at e; cases e
      · rw [upd_ne q] at e; exact e
    · rw [upd_ne fun q => hn k lk q.symm]
      exact e
  refine ⟨x, fun j c e => ?_, fun i j li lj => s.inj i j (live_set h ho li) (live_set h ho lj), fun j l => s.nex j (live_set h ho l), fun a l e => s.ext a l (x.there a e)⟩
  have e : (F.st.set k (.lst ds))[j]? = some c := e
  rw [List.getElem?_set] at e
  by_cases hj : k = j
  · subst hj
    rw [if_pos rfl, if_pos hk] at e
    cases e
    exact ⟨vs, upd_same, r.ext x⟩
  · rw [if_neg hj] at e
    by_cases hc : c = .gone
    · subst hc; trivial
    · have lj : Live F.st j := ⟨c, e, hc⟩
      have hne : F.al j ≠ F.al k := fun q => hj (s.inj j k lj lk q).symm
      have q := s.ce j c e
      have eq : upd H (F.al k) (.lst vs) (F.al j) = H (F.al j) := upd_ne hne
      cases c with
      | lst es =>
        obtain ⟨ws, q1, r'⟩ := q
        exact ⟨ws, eq.trans q1, r'.ext x⟩
      | dic es =>
        obtain ⟨ws, q1, r'⟩ := q
        exact ⟨ws, eq.trans q1, r'.ext x⟩
      | gone => trivial
/-- the frame with a new cell at p -/
def Fr.new (F : Fr) (p : Addr) (c : Cell) : Fr := { F with al := fun j => if j = F.st.length then p else F.al j, st := F.st ++ [c] }
theorem new_get {st : Store} {c : Cell} {j : Nat} {o : Cell} (h : (st ++ [c])[j]? = some o) : (j < st.length ∧ st[j]? = some o) ∨ (j = st.length ∧ o = c) := by
  by_cases hj : j < st.length
  · rw [List.getElem?_append_left hj] at h
    exact .inl ⟨hj, h⟩
  · rw [List.getElem?_append_right (Nat.le_of_not_lt hj)] at h
    have hz : j - st.length = 0 := by
      cases q : j - st.length with
      | zero => rfl
      | succ m => rw [q] at h; simp at h
    rw [hz] at h
    cases h
    exact .inr ⟨by omega, rfl⟩
/-- a new cell: what stands at p was nobody's -/
theorem cell_new {F G : Fr} {H H1 : Hp} {p : Addr} {ds : List D} {vs : List V} (x : Ext F H G H1) (s : Sto G H1) (hp : H p = none) (hx : G.ex p) (hv : H1 p = some (.lst vs)) (r : Reps G H1 ds vs) :
    Ext F H ((G.rem p).new p (.lst ds)) H1 ∧ Sto ((G.rem p).new p (.lst ds)) H1 ∧ Rep ((G.rem p).new p (.lst ds)) H1 (.cel G.st.length) (.ref p) := by
  have alo : ∀ {j}, j < G.st.length → ((G.rem p).new p (.lst ds)).al j = G.al j := fun {j} hj => if_neg (Nat.ne_of_lt hj)
  have aln : ((G.rem p).new p (.lst ds)).al G.st.length = p := if_pos rfl
  have lv : ∀ {j}, Live (G.st ++ [.lst ds]) j → (j < G.st.length ∧ Live G.st j) ∨ j = G.st.length := fun {j} ⟨o, e, ho⟩ => by
    rcases new_get e with ⟨hj, e⟩ | ⟨e, _⟩
    · exact .inl ⟨hj, o, e, ho⟩
    · exact .inr e
  have un : ∀ a, ((G.rem p).new p (.lst ds)).un a → G.un a := by
    rintro a (q | ⟨k, l, q⟩)
    · exact .inl q.1
    · rcases lv l with ⟨hj, l⟩ | e
      · rw [alo hj] at q
        exact .inr ⟨k, l, q⟩
      · subst e
        rw [aln] at q
        exact .inl (q ▸ hx)
  have le : G.st.length ≤ ((G.rem p).new p (.lst ds)).st.length := by
    show G.st.length ≤ (G.st ++ [_]).length
    rw [List.length_append]
    exact Nat.le_add_right _ _
  obtain ⟨r1, r2, r3⟩ := Rep.less (F := G) (G := (G.rem p).new p (.lst ds)) (H := H1) (fun k hk => alo hk) le un
  refine ⟨⟨fun k hk => (alo (Nat.lt_of_lt_of_le hk x.len)).trans (x.al k hk), (x.rem hp).ex, Nat.le_trans x.len le, fun k hk l => ?_, fun k hk l => ?_, x.there, x.keep⟩, ⟨fun k c e => ?_, fun i j li lj q => ?_, fun k l q => ?_, fun a q => s.ext a q.1⟩, congrArg V.ref aln.symm, ?_⟩
  · rcases lv l with ⟨_, l⟩ | e
    · exact x.lv k hk l
    · exact absurd (Nat.lt_of_lt_of_le hk x.len) (by rw [e]; exact Nat.lt_irrefl _)
  · rcases lv l with ⟨hj, l⟩ | e
    · rw [alo hj]
      exact x.new k hk l
    · rw [e, aln]
      exact hp
  · have e : (G.st ++ [.lst ds])[k]? = some c := e
    rcases new_get e with ⟨hj, e⟩ | ⟨e, ec⟩
    · have q := s.ce k c e
      rw [alo hj]
      cases c with
      | lst es =>
        obtain ⟨ws, q1, r'⟩ := q
        exact ⟨ws, q1, r2 _ _ r'⟩
      | dic es =>
        obtain ⟨ws, q1, r'⟩ := q
        exact ⟨ws, q1, r3 _ _ r'⟩
      | gone => trivial
    · subst e ec
      rw [aln]
      exact ⟨vs, hv, r2 _ _ r⟩
  · have nx : ∀ {j}, Live G.st j → G.al j ≠ p := fun {j} l e => s.nex j l (by rw [e]; exact hx)
    rcases lv li with ⟨hi, li⟩ | ei <;> rcases lv lj with ⟨hj, lj⟩ | ej
    · rw [alo hi, alo hj] at q
      exact s.inj i j li lj q
    · rw [alo hi, ej, aln] at q
      exact absurd q (nx li)
    · rw [ei, aln, alo hj] at q
      exact absurd q.symm (nx lj)
    · rw [ei, ej]
  · obtain ⟨q, qn⟩ := q
    rcases lv l with ⟨hj, l⟩ | e
    · rw [alo hj] at q
      exact s.nex k l q
    · rw [e, aln] at qn
      exact qn rfl
  · show G.st.length < (G.st ++ [_]).length
    simp
/-- .. where p is a new place -/
theorem cell_fresh {F : Fr} {H : Hp} {p : Addr} {ds : List D} {vs : List V} (s : Sto F H) (hp : H p = none) (r : Reps F H ds vs) :
    ∃ F' : Fr, F'.st = F.st ++ [.lst ds] ∧ Ext F H F' (upd H p (.lst vs)) ∧ Sto F' (upd H p (.lst vs)) ∧ Rep F' (upd H p (.lst vs)) (.cel F.st.length) (.ref p) := by
  have x : Ext F H (F.add p) (upd H p (.lst vs)) := Ext.add (Ext.fresh F _ hp) hp
  exact ⟨((F.add p).rem p).new p (.lst ds), rfl, cell_new x (s.start _ hp) hp (.inr rfl) upd_same (r.ext x)⟩
/-- a cell that is frozen -/
theorem cell_frz {F : Fr} {H : Hp} {k : Nat} {ds : List D} {v : V} (s : Sto F H) (h : F.st[k]? = some (.lst ds)) (r : Rep F H (.cel k) v) :
    Ext F H { F with st := F.st.set k .gone } H ∧ Sto { F with st := F.st.set k .gone } H ∧ Rep { F with st := F.st.set k .gone } H (.lst ds) v := by
  obtain ⟨e, hk⟩ := r
  have lk : Live F.st k := ⟨_, h, fun z => nomatch z⟩
  have x : Ext F H { F with st := F.st.set k .gone } H := ⟨fun _ _ => rfl, fun _ _ => Iff.rfl, by simp, fun j _ l => live_set h (fun z => nomatch z) l, fun j hj l => absurd (live_set h (fun z => nomatch z) l).lt (Nat.not_lt.mpr hj), fun _ e => e, fun _ _ e _ => e⟩
  obtain ⟨vs, ha, rs⟩ := s.ce k _ h
  refine ⟨x, ⟨fun j c ej => ?_, fun i j li lj => s.inj i j (live_set h (fun z => nomatch z) li) (live_set h (fun z => nomatch z) lj), fun j l => s.nex j (live_set h (fun z => nomatch z) l), s.ext⟩, F.al k, vs, e, ?_, ha, rs.ext x⟩
  · have ej : (F.st.set k .gone)[j]? = some c := ej
    rw [List.getElem?_set] at ej
    by_cases hj : k = j
    · subst hj
      rw [if_pos rfl, if_pos hk] at ej
      cases ej
      trivial
    · rw [if_neg hj] at ej
      have q := s.ce j c ej
      cases c with
      | lst es =>
        obtain ⟨ws, q1, r'⟩ := q
        exact ⟨ws, q1, r'.ext x⟩
      | dic es =>
        obtain ⟨ws, q1, r'⟩ := q
        exact ⟨ws, q1, r'.ext x⟩
      | gone => trivial
  · rintro (q | ⟨j, l, q⟩)
    · exact s.nex k lk q
    · have lj := live_set h (fun z => nomatch z) l
      have ejk := s.inj j k lj lk q
      subst ejk
      obtain ⟨o, eo, ho⟩ := l
      have eo : (F.st.set j .gone)[j]? = some o := eo
      rw [List.getElem?_set, if_pos rfl, if_pos hk] at eo
      cases eo
      exact ho rfl
end MP
end
section
set_option maxRecDepth 100000
set_option maxHeartbeats 4000000
/-! MPSnd17: methods; list(range(..)); new cells. -/
namespace MP
open PySem L2
variable [Glo]
def rMt (m : Mt) : V → List V → Hp → VK → Prop := fun x xs H Q => ∃ F d ds z st', Sto F H ∧ Rep F H d x ∧ Reps F H ds xs ∧ metD F.st m d ds = some (z, st') ∧ ∀ F' H' v, F'.st = st' → Ext F H F' H' → Sto F' H' → Rep F' H' z v → Q v H'
theorem Reps.dropLast {F : Fr} {H : Hp} {ds : List D} {vs : List V} (r : Reps F H ds vs) : Reps F H ds.dropLast vs.dropLast := by
  rw [List.dropLast_eq_take, List.dropLast_eq_take, r.length]
  exact r.take _
theorem Reps.erase {F : Fr} {H : Hp} {ds : List D} {vs : List V} (j : Nat) (r : Reps F H ds vs) : Reps F H (ds.eraseIdx j) (vs.eraseIdx j) := by
  rw [List.eraseIdx_eq_take_drop_succ, List.eraseIdx_eq_take_drop_succ]
  exact (r.take _).append (r.drop _)
theorem cel_at {F : Fr} {H : Hp} {k : Nat} {v : V} {ds : List D} (s : Sto F H) (r : Rep F H (.cel k) v) (h : F.st[k]? = some (.lst ds)) : ∃ vs, v = .ref (F.al k) ∧ H (F.al k) = some (.lst vs) ∧ Reps F H ds vs := by
  obtain ⟨e, _⟩ := r
  obtain ⟨vs, ha, rs⟩ := s.ce k _ h
  exact ⟨vs, e, ha, rs⟩
section
variable {X : Cx} {n : Nat}
theorem mt_appendF : MtR X "list.append" (rMt .append) := by
  intro pins s σ H x xs v us Q I rx rxs ⟨F, d, ds, z, st', hs, rd, rs, hm, q⟩
  rcases ds with _ | ⟨e, _ | ⟨_, _⟩⟩
  · cases d <;> cases hm
  rotate_left
  · cases d <;> cases hm
  obtain ⟨y, rfl, re⟩ := one_rep rs
  cases d with
  | cel k =>
    have hm : (match F.st[k]? with
      | some (.lst ds) => if ds.length < line then some (D.non, F.st.set k (.lst (ds ++ [e]))) else none
      | _ => none) = some (z, st') := hm
    split at hm
    · rename_i es hk
      split at hm
      · rename_i hl
        cases hm
        obtain ⟨vs, ev, ha, rv⟩ := cel_at hs rd hk
        rw [line_eq, rv.length] at hl
        obtain ⟨x1, s1⟩ := cell_write hs hk (fun z => nomatch z) (rv.append (Reps.one re))
        exact mt_append pins s σ H x _ v us Q I rx rxs ⟨_, vs, y, ev, rfl, ha, hl, q _ _ .non rfl x1 s1 rfl⟩
      · cases hm
    · cases hm
  | _ => cases hm
theorem mt_popF : MtR X "list.pop" (rMt .pop) := by
  intro pins s σ H x xs v us Q I rx rxs ⟨F, d, ds, z, st', hs, rd, rs, hm, q⟩
  rcases ds with _ | ⟨e, _⟩
  rotate_left
  · cases d <;> cases hm
  have ex : xs = [] := rs
  subst ex
  cases d with
  | cel k =>
    have hm : (match F.st[k]? with
      | some (.lst ds) => (ds[ds.length - 1]?).map fun y => (y, F.st.set k (.lst ds.dropLast))
      | _ => none) = some (z, st') := hm
    split at hm
    · rename_i es hk
      cases hy : es[es.length - 1]? with
      | none => rw [hy] at hm; cases hm
      | some y =>
        rw [hy] at hm
        cases hm
        obtain ⟨vs, ev, ha, rv⟩ := cel_at hs rd hk
        obtain ⟨x1, s1⟩ := cell_write hs hk (fun z => nomatch z) rv.dropLast
        obtain ⟨u, hu, ru⟩ := rv.get hy
        rw [rv.length] at hu
        exact mt_pop pins s σ H x _ v us Q I rx rxs ⟨_, vs, u, ev, rfl, ha, hu, q _ _ u rfl x1 s1 (ru.ext x1)⟩
    · cases hm
  | _ => cases hm
theorem mt_popAtF : MtR X "list.pop" (rMt .popAt) := by
  intro pins s σ H x xs v us Q I rx rxs ⟨F, d, ds, z, st', hs, rd, rs, hm, q⟩
  rcases ds with _ | ⟨e, _ | ⟨_, _⟩⟩
  · cases d <;> cases hm
  rotate_left
  · cases e <;> cases d <;> cases hm
  obtain ⟨y, rfl, re⟩ := one_rep rs
  cases e with
  | int i =>
    cases d with
    | cel k =>
      have hm : (match F.st[k]? with
        | some (.lst ds) => if ds.length ≤ line then (match L2.ixN ds.length i with
          | some j => (ds[j]?).map fun y => (y, F.st.set k (.lst (ds.eraseIdx j)))
          | none => none) else none
        | _ => none) = some (z, st') := hm
      split at hm
      · rename_i es hk
        split at hm
        · rename_i hl
          split at hm
          · rename_i j hj
            cases hy : es[j]? with
            | none => rw [hy] at hm; cases hm
            | some y' =>
              rw [hy] at hm
              cases hm
              obtain ⟨vs, ev, ha, rv⟩ := cel_at hs rd hk
              obtain ⟨x1, s1⟩ := cell_write hs hk (fun z => nomatch z) (rv.erase j)
              obtain ⟨u, hu, ru⟩ := rv.get hy
              obtain ⟨h1, h2, h3, h4⟩ := ixN_seq hj
              have hl : es.length ≤ 16777216 := hl
              refine mt_popAt pins s σ H x _ v us Q I rx rxs ⟨_, vs, i, j, u, ev, by rw [show y = _ from re], ha, by omega, by omega, by rw [← rv.length]; exact h1, hu, q _ _ u rfl x1 s1 (ru.ext x1)⟩
          · cases hm
        · cases hm
      · cases hm
    | _ => cases hm
  | _ => cases d <;> cases hm
theorem idxD_spec {x : PyData} : ∀ {ys : List PyData} {n m : Nat}, idxD x ys n = some m → ∃ j z, m = n + j ∧ ys[j]? = some z ∧ PyData.eqv z x = true ∧ ∀ (i : Nat) (z' : PyData), i < j → ys[i]? = some z' → PyData.eqv z' x = false
  | [], _, _, h => by cases h
  | y :: r, n, m, h => by
    have h : (if PyData.eqv y x then some n else idxD x r (n + 1)) = some m := h
    split at h
    · rename_i hy
      cases h
      exact ⟨0, y, rfl, rfl, hy, fun i _ hi => absurd hi (Nat.not_lt_zero _)⟩
    · rename_i hy
      obtain ⟨j, z, e, h1, h2, h3⟩ := idxD_spec h
      refine ⟨j + 1, z, by omega, h1, h2, fun i z' hi hz => ?_⟩
      cases i with
      | zero =>
        have e : y = z' := by simpa using hz
        subst e
        simpa using hy
      | succ i => exact h3 i z' (by omega) (by simpa using hz)
theorem mt_indexF (hr : Room n X.A) : MtR X "list.index" (rMt .index) := by
  intro pins s σ H x xs v us Q I rx rxs ⟨F, d, ds, z, st', hs, rd, rs, hm, q⟩
  rcases ds with _ | ⟨e, _ | ⟨_, _⟩⟩
  · cases hm
  rotate_left
  · cases hm
  obtain ⟨y, rfl, re⟩ := one_rep rs
  have hm : (match snap F.st d, snap F.st e with
    | some (.lst ds), some y => if SeqAt.shaped (.list (toPs ds)) && SeqAt.shaped (toP y) then (idxD (toP y) (toPs ds) 0).map fun (n : Nat) => (D.int (n : Int), F.st) else none
    | _, _ => none) = some (z, st') := hm
  split at hm
  · rename_i es y' h1 h2
    split at hm
    · rename_i hsh
      rw [Bool.and_eq_true] at hsh
      cases hi : idxD (toP y') (toPs es) 0 with
      | none => rw [hi] at hm; cases hm
      | some m =>
        rw [hi] at hm
        cases hm
        obtain ⟨j, z, e1, e2, e3, e4⟩ := idxD_spec hi
        rw [Nat.zero_add] at e1
        subst e1
        have dp := (snap_dp (K := X.K) hs rd h1).1
        rw [toP] at dp
        have hxa : ∃ a, x = .ref a := by
          cases dp with
          | lst h _ => exact ⟨_, rfl⟩
        obtain ⟨a, ea⟩ := hxa
        subst ea
        exact mt_indexD (room64 hr) pins s σ H _ _ v us Q I rx rxs ⟨a, y, toP y', toPs es, m, z, rfl, rfl, dp, (snap_dp hs re h2).1, hsh.1, hsh.2, e2, e3, e4, q F H _ rfl (Ext.refl F H) hs rfl⟩
    · cases hm
  · cases hm
theorem mt_splitF : MtR X "str.split" (rMt .split) := by
  intro pins s σ H x xs v us Q I rx rxs ⟨F, d, ds, z, st', hs, rd, rs, hm, q⟩
  rcases ds with _ | ⟨e, _ | ⟨_, _⟩⟩
  · cases hm
  rotate_left
  · cases e <;> cases hm
  obtain ⟨y, rfl, re⟩ := one_rep rs
  cases e with
  | str b =>
    cases d with
    | str a =>
      have hm : (if decide (0 < b.length) && decide (a.length + 2 ≤ line) then some (D.lst ((Txt.split a b).map .str), F.st) else none) = some (z, st') := hm
      split at hm
      · rename_i hc
        cases hm
        simp only [Bool.and_eq_true, decide_eq_true_eq] at hc
        rw [line_eq] at hc
        refine mt_split pins s σ H x _ v us Q I rx rxs ⟨a, b, rd, by rw [show y = _ from re], beq_eq_false_iff_ne.mpr (by omega), hc.2, fun p hp => q F _ _ rfl (Ext.fresh F _ hp) (hs.fresh _ hp) (Rep.newL hs hp ?_)⟩
        have go : ∀ ys : List Str, Reps F H (ys.map D.str) (ys.map V.str) := fun ys => by
          induction ys with
          | nil => rfl
          | cons y ys ih => exact ⟨_, _, rfl, rfl, ih⟩
        exact go _
      · cases hm
    | _ => cases hm
  | _ => cases hm
theorem mt_joinF : MtR X "str.join" (rMt .join) := by
  intro pins s σ H x xs v us Q I rx rxs ⟨F, d, ds, z, st', hs, rd, rs, hm, q⟩
  rcases ds with _ | ⟨e, _ | ⟨_, _⟩⟩
  · cases hm
  rotate_left
  · cases hm
  obtain ⟨y, rfl, re⟩ := one_rep rs
  cases d with
  | str a =>
    have hm : (match (items F.st e).bind strsD with
      | some ys => if (ys.map (·.length)).sum + ys.length * a.length ≤ line then some (D.str (Txt.join a ys), F.st) else none
      | none => none) = some (z, st') := hm
    split at hm
    · rename_i ys hy
      split at hm
      · rename_i hc
        cases hm
        cases hi : items F.st e with
        | none => rw [hi] at hy; cases hy
        | some es =>
          rw [hi] at hy
          obtain ⟨p, vs, ep, ha, rv⟩ := items_rep hs re hi
          rw [strsD_map hy] at rv
          rw [rv.strs] at ha
          exact mt_join pins s σ H x _ v us Q I rx rxs ⟨a, p, ys, rd, by rw [ep], .inl (SqL.of ha), hc, q F H _ rfl (Ext.refl F H) hs rfl⟩
      · cases hm
    · cases hm
  | _ => cases hm
end
section
variable {T : Tab} {C : Nat → Addr} {W : WX} {c : Cxt} {n : Nat} {se : SE} {X : Cx}
/-- a method call's reading -/
theorem met_of {m : Mt} {a : Ex} {es : Exs} {K : PySem.W.Frag} {ty : String} (ht : ∀ F H d v, Sto F H → Rep F H d v → metTy F.st m d = true → tyV K ty v H) {σ : L2.St} {H : Hp} {Q : VK} (h : evT C W c (.met m a es) σ H Q) :
    evT C W c a σ H fun x H1 => tyV K ty x H1 ∧ evsT C W c es σ H1 fun xs H2 => rMt m x xs H2 Q := by
  obtain ⟨F, ρ, hs, hl, w⟩ := h
  rw [ev] at w
  refine ⟨F, ρ, hs, hl, (Aft.bind w).mono fun F1 H1 d v x1 s1 r1 q1 => ?_⟩
  split at q1
  · rename_i hm
    refine ⟨ht F1 H1 d v s1 r1 hm, F1, ρ, s1, hl.ext x1, (Aft.bind q1).mono fun F2 H2 ds vs x2 s2 r2 q2 => ?_⟩
    split at q2
    · rename_i z st' e
      exact ⟨F2, d, ds, z, st', s2, r1.ext x2, r2, e, fun F' H' v e xe sn r => q2 F' H' v e xe sn r⟩
    · exact q2.elim
  · exact q1.elim
theorem ty_list {K : PySem.W.Frag} {F : Fr} {H : Hp} {d : D} {v : V} (s : Sto F H) (r : Rep F H d v) (h : (items F.st d).isSome = true) : tyV K "list" v H := by
  obtain ⟨ds, e⟩ := Option.isSome_iff_exists.mp h
  obtain ⟨a, vs, ev, ha, _⟩ := items_rep s r e
  subst ev
  exact .inl ⟨rfl, vs, SqL.of ha⟩
theorem ty_str {K : PySem.W.Frag} {F : Fr} {H : Hp} {d : D} {v : V} (h : metTy F.st .join d = true) (r : Rep F H d v) : tyV K "str" v H := by
  cases d with
  | str z => rw [show v = _ from r]; rfl
  | _ => cases h
theorem few {env : Env} {pos : Pos} {xs : List Expr} (hs : noStars xs = true) (h9 : xs.length < 9) : ((backTo pos (starEach xs env)).all (fun x => !x.1) && (backToKw pos (keywordEach [] env)).all (fun x => x.1.isSome)
      && decide (xs.length + ([] : List Keyword).length + (if ([] : List Keyword).isEmpty then 0 else 1) < 30)) = true := by
  rw [stars_all hs]
  have : xs.length + ([] : List Keyword).length + (if ([] : List Keyword).isEmpty then 0 else 1) < 30 := by
    show xs.length + 0 + 0 < 30
    omega
  rw [decide_eq_true this]
  rfl
theorem meth1 {id ty : String} {nm : Str} {m : Mt} (pa : PlainAttrs ty) (slot : Slot ty nm id) (hty : typeOf (.builtin id) = pure (.type "method_descriptor")) (hm : MtR X id (rMt m)) (ht : ∀ F H d v, Sto F H → Rep F H d v → metTy F.st m d = true → tyV X.K ty v H) {a : Ex} {es : Exs} {o : Expr} {xs : List Expr} {ap cp : Pos}
    (ho : PE X o (evT C W c a)) (ha : PA X xs (evsT C W c es)) (hs : noStars xs = true) (hb : baseB o = true) (h9 : xs.length < 9) (hl : (ap.endLine == cp.line) = true) (hnil : xs = [] → es = .nil) : PE X (.Call (.Attribute o nm ap) xs [] cp) (evT C W c (.met m a es)) := by
  cases xs with
  | nil =>
    refine imp_e (pe_bm0 pa slot hty hm ho (baseB_ok hb) hl) fun σ H Q w => ?_
    obtain ⟨F, ρ, h1, h2, w'⟩ := met_of ht w
    refine ⟨F, ρ, h1, h2, w'.mono fun F1 H1 d v x1 s1 r1 ⟨q1, q2⟩ => ⟨q1, ?_⟩⟩
    rw [hnil rfl] at q2
    obtain ⟨F2, ρ2, k1, k2, k3⟩ := q2
    rw [evs] at k3
    exact k3.ok_now k1 rfl
  | cons e es' =>
    have h1 : isStar e = false ∧ noStars es' = true := by
      unfold noStars at hs ⊢
      rw [List.all_cons, Bool.and_eq_true, Bool.not_eq_true'] at hs
      exact hs
    exact imp_e (pe_bm pa slot hty hm ho ha (baseB_ok hb) (few hs h9) hl (star_cons h1.1) (stars_any h1.2)) fun σ H Q w => met_of ht w
end
end MP
end
section
set_option maxRecDepth 100000
set_option maxHeartbeats 4000000
/-! MPSnd18: new cells from displays, sums, list(..), comprehensions; frozen ones; list(range(..)). -/
namespace MP
open PySem L2
variable [Glo]
section
variable {T : Tab} {C : Nat → Addr} {W : WX} {c : Cxt} {n : Nat} {se : SE} {X : Cx}
theorem mk_bind {e : Ex} {ρ : Sl} {st : Store} : ev c (.mk e) ρ st = (ev c e ρ st).bind fun x st => match x with
    | .lst ds => .ok (.cel st.length) (st ++ [.lst ds])
    | _ => .bad := by
  (rw [ev]) <;> rfl
/-- what is wanted of a new list that becomes a cell -/
theorem mk_fin {We : Value → Option Addr → Hp → Prop} {F : Fr} {H : Hp} {ds : List D} {vs : List V} {p : Addr} {Q : VK} (h : Aft Rep C We F H (R.ok (D.cel F.st.length) (F.st ++ [.lst ds])) fun _ H' _ v => Q v H') (s : Sto F H) (hp : H p = none) (r : Reps F H ds vs) : Q (.ref p) (upd H p (.lst vs)) := by
  obtain ⟨F', e, x, s', rp⟩ := cell_fresh s hp r
  exact h F' _ _ e x s' rp
theorem pe_mkLst {es : Exs} {xs : List Expr} {p : Pos} (ha : PA X xs (evsT C W c es)) : PE X (.List xs p) (evT C W c (.mk (.lst es))) := by
  refine imp_e (pe_lst ha) fun σ H Q ⟨F, ρ, hs, hl, w⟩ => ?_
  rw [mk_bind, ev, bind_assoc] at w
  refine ⟨F, ρ, hs, hl, (Aft.bind w).mono fun F1 H1 ds vs x1 s1 r1 q1 => ?_⟩
  split at q1
  · rename_i hlen
    rw [line_eq, r1.length] at hlen
    exact ⟨hlen, fun p hp => mk_fin q1 s1 hp r1⟩
  · exact q1.elim
/-- a sum of lists -/
theorem op_mkadd : OpR X (binaryOp .Add) (fun x y H Q => ∃ F d e xs ys, Sto F H ∧ Rep F H d x ∧ Rep F H e y ∧ items F.st d = some xs ∧ items F.st e = some ys ∧ xs.length + ys.length ≤ line ∧ ∀ p vs, H p = none → Reps F H (xs ++ ys) vs → Q (.ref p) (upd H p (.lst vs))) := by
  intro pins s σ H x y v u Q I rx ry ⟨F, d, e, xs, ys, hs, rd, re, hi, hj, hl, q⟩
  obtain ⟨a, vs, ea, ha, ra⟩ := items_rep hs rd hi
  obtain ⟨b, us, eb, hb, rb⟩ := items_rep hs re hj
  rw [line_eq, ra.length, rb.length] at hl
  exact op_cat pins s σ H x y v u Q I rx ry ⟨a, b, vs, us, ea, eb, ha, hb, hl, fun p hp => q p _ hp (ra.append rb)⟩
theorem binD_lst {st : Store} {d e : D} {zs : List D} (h : binD st .add d e = some (.lst zs)) : ∃ xs ys, items st d = some xs ∧ items st e = some ys ∧ xs.length + ys.length ≤ line ∧ zs = xs ++ ys := by
  unfold binD at h
  split at h
  · cases h
  · simp only at h
    split at h <;> cases h
  · cases h
  · simp only at h
    split at h <;> cases h
  · cases h
  · split at h
    · rename_i xs ys _ h1 h2
      split at h
      · rename_i hl
        cases h
        exact ⟨xs, ys, h1, h2, hl, rfl⟩
      · cases h
    · cases h
theorem pe_mkAdd {a b : Ex} {x y : Expr} {p : Pos} (ha : PE X x (evT C W c a)) (hb : PE X y (evT C W c b)) : PE X (.BinOp x .Add y p) (evT C W c (.mk (.bin .add a b))) := by
  refine imp_e (pe_op op_mkadd ha hb) fun σ H Q ⟨F, ρ, hs, hl, w⟩ => ?_
  rw [mk_bind, ev, bind_assoc] at w
  refine ⟨F, ρ, hs, hl, (Aft.bind w).mono fun F1 H1 d v x1 s1 r1 q1 => ?_⟩
  rw [bind_assoc] at q1
  refine ⟨F1, ρ, s1, hl.ext x1, (Aft.bind q1).mono fun F2 H2 e u x2 s2 r2 q2 => ?_⟩
  cases hz : binD F2.st .add d e with
  | none => rw [hz] at q2; exact q2.elim
  | some z =>
    rw [hz] at q2
    cases z with
    | lst zs =>
      obtain ⟨xs, ys, h1, h2, h3, h4⟩ := binD_lst hz
      subst h4
      exact ⟨F2, d, e, xs, ys, s2, r1.ext x2, r2, h1, h2, h3, fun p vs hp rr => mk_fin q2 s2 hp rr⟩
    | _ => exact q2.elim
theorem cr_mkList : CallR X (.type "list") (fun vs H Q => ∃ F d ds v, vs = [v] ∧ Sto F H ∧ Rep F H d v ∧ (items F.st d = some ds ∨ d = .tup ds) ∧ ∀ p us, H p = none → Reps F H ds us → Q (.ref p) (upd H p (.lst us))) := by
  intro pins s σ H xs us Q I r ⟨F, d, ds, v, e, hs, rd, hd, q⟩
  subst e
  rcases hd with hi | hd
  · obtain ⟨a, vs, ea, ha, rs⟩ := items_rep hs rd hi
    subst ea
    exact call_list_of pins s σ H _ us Q I r ⟨a, vs, rfl, .inl (SqL.of ha), fun l hl => q _ _ hl rs⟩
  · subst hd
    obtain ⟨a, vs, ea, _, ha, rs⟩ := rd
    subst ea
    exact call_list_of pins s σ H _ us Q I r ⟨a, vs, rfl, .inr (SqT.of ha), fun l hl => q _ _ hl rs⟩
theorem pe_mkList (G : GX T C W c n se X) {e : Ex} {y : Expr} {p pos : Pos} (g1 : gloB se.sc "list" = true) (hy : PE X y (evT C W c e)) (hsy : isStar y = false) : PE X (.Call (.Name "list" p) [y] [] pos) (evT C W c (.mk (.blt .list (.cons e .nil)))) := by
  refine imp_e (pe_callTy cr_mkList (gloB_ok (by rw [G.sc]; exact g1)) (G.bl _ (by decide)) PyProof.Rows.boot_list (pa_cons hy pa_nil (star_cons hsy)) (by decide) (by decide) (star_cons hsy) (by rfl)) fun σ H Q ⟨F, ρ, hs, hl, w⟩ => ?_
  rw [mk_bind, ev, evs1, bind_assoc, bind_assoc] at w
  refine ⟨F, ρ, hs, hl, (Aft.bind w).mono fun F1 H1 d v x1 s1 r1 q1 => ?_⟩
  have q1 : Aft Rep C _ F1 H1 ((ofO (match d with
    | .tup xs => some (D.lst xs)
    | _ => (items F1.st d).map .lst) F1.st).bind fun x st => match x with
    | .lst ds => .ok (.cel st.length) (st ++ [.lst ds])
    | _ => .bad) _ := q1
  have go : ∀ ds, (items F1.st d = some ds ∨ d = .tup ds) → Aft Rep C (fun cl d H' => W cl d σ H') F1 H1 (R.ok (D.cel F1.st.length) (F1.st ++ [.lst ds])) (fun _ H' _ v => Q v H') → ∃ F d ds v', [v] = [v'] ∧ Sto F H1 ∧ Rep F H1 d v' ∧ (items F.st d = some ds ∨ d = .tup ds) ∧ ∀ p us, H1 p = none → Reps F H1 ds us → Q (.ref p) (upd H1 p (.lst us)) :=
    fun ds hd q => ⟨F1, d, ds, v, rfl, s1, r1, hd, fun p us hp rr => mk_fin q s1 hp rr⟩
  cases d with
  | tup ds => exact go ds (.inr rfl) q1
  | lst ds => exact go ds (.inl rfl) q1
  | cel k =>
    cases hi : items F1.st (.cel k) with
    | none =>
      have q1 : Aft Rep C _ F1 H1 ((ofO ((items F1.st (.cel k)).map D.lst) F1.st).bind _) _ := q1
      rw [hi] at q1
      exact q1.elim
    | some ds =>
      have q1 : Aft Rep C _ F1 H1 ((ofO ((items F1.st (.cel k)).map D.lst) F1.st).bind _) _ := q1
      rw [hi] at q1
      exact go ds (.inl hi) q1
  | _ => exact q1.elim
theorem mkLc_of {x : Ex} {tg : List Nat} {tp : Bool} {s : Sr} {i : Ox} {own : List Nat} {σ : L2.St} {H : Hp} {Q : VK} (htg : ∀ j ∈ tg, j ∈ own) (h : evT C W c (.mk (.lc x tg tp s i own)) σ H Q) :
    tLc (evwT C W c s) (gF tg tp) (evtT C WF c i) (evT C WF c x) own σ H Q := by
  obtain ⟨F, ρ, hs, hl, w⟩ := h
  rw [mk_bind, ev, bind_assoc] at w
  refine tLc_by htg hs hl ((Aft.bind w).mono fun F1 H1 wk J x1 s1 r1 q1 => ?_)
  have q1 : Aft Rep C _ F1 H1 (((noExc (lcGo wk (turnF c x tg tp i own ρ) wk.its [] F1.st)).bind fun ys st => R.ok (D.lst ys) st).bind fun x st => match x with
    | .lst ds => .ok (.cel st.length) (st ++ [.lst ds])
    | _ => .bad) (fun _ H' _ v => Q v H') := q1
  cases hr : lcGo wk (turnF c x tg tp i own ρ) wk.its [] F1.st with
  | exc k d st => rw [hr] at q1; exact q1.elim
  | bad => rw [hr] at q1; exact q1.elim
  | ok ys st' =>
    rw [hr] at q1
    have q1 : ∀ F' H' b, F'.st = st' ++ [.lst ys] → Ext F1 H1 F' H' → Sto F' H' → Rep F' H' (.cel st'.length) b → Q b H' := q1
    refine ⟨ys, st', rfl, fun F2 H2 D' vs xe sF xD hD hDv rs est => ?_⟩
    obtain ⟨k1, k2, k3⟩ := cell_new xe sF hD xD hDv rs
    exact q1 _ H2 _ (by rw [← est]; rfl) k1 k2 (by rw [← est]; exact k3)
/-- a cell is frozen -/
theorem pe_frzF {e : Ex} {x : Expr} (h : PE X x (evT C W c e)) : PE X x (evT C W c (.frz e)) := by
  refine imp_e h fun σ H Q ⟨F, ρ, hs, hl, w⟩ => ?_
  rw [ev] at w
  refine ⟨F, ρ, hs, hl, (Aft.bind w).mono fun F1 H1 d v x1 s1 r1 q1 => ?_⟩
  cases d with
  | cel k =>
    have q1 : Aft Rep C _ F1 H1 (match F1.st[k]? with
      | some (.lst ds) => R.ok (.lst ds) (F1.st.set k .gone)
      | _ => .bad) _ := q1
    split at q1
    · rename_i ds e
      obtain ⟨x2, s2, r2⟩ := cell_frz s1 e r1
      exact q1 _ _ _ rfl x2 s2 r2
    · exact q1.elim
  | _ => exact q1.elim
/-- list(range(e)) -/
theorem pe_lrngF (G : GX T C W c n se X) {e : Ex} {y : Expr} {p q pos pos' : Pos} (g1 : gloB se.sc "list" = true) (g2 : gloB se.sc "range" = true) (hy : PE X y (evT C W c e)) (hsy : isStar y = false) :
    PE X (.Call (.Name "list" p) [.Call (.Name "range" q) [y] [] pos'] [] pos) (evT C W c (.blt .lrng (.cons e .nil))) := by
  refine imp_e (pe_listRg G.calm (gloB_ok (by rw [G.sc]; exact g1)) (G.bl _ (by decide)) (prg_1 (gloB_ok (by rw [G.sc]; exact g2)) (G.bl _ (by decide)) hy (star_cons hsy)) (by rfl)) fun σ H Q ⟨F, ρ, hs, hl, w⟩ => ?_
  rw [ev, evs1, bind_assoc] at w
  refine ⟨F, ρ, hs, hl, (Aft.bind w).mono fun F1 H1 d v x1 s1 r1 q1 => ?_⟩
  cases d with
  | int i =>
    have q1 : Aft Rep C _ F1 H1 (ofO (if decide (-(2 ^ 62) ≤ i) && decide (i ≤ line) then some (D.lst ((List.range i.toNat).map fun (k : Nat) => .int (k : Int))) else none) F1.st) _ := q1
    split at q1
    · rename_i hc
      simp only [Bool.and_eq_true, decide_eq_true_eq] at hc
      obtain ⟨c1, c2⟩ := hc
      have c2 : i ≤ 16777216 := c2
      refine ⟨i, r1, ⟨by omega, by omega, c1, by omega, by omega⟩, fun q hq => q1 F1 _ _ rfl (Ext.fresh F1 _ hq) (s1.fresh _ hq) (Rep.newL s1 hq ?_)⟩
      unfold rgV
      have go : ∀ ns : List Nat, Reps F1 H1 (ns.map fun (k : Nat) => D.int (k : Int)) (ns.map fun (k : Nat) => V.int (0 + (k : Int))) := fun ns => by
        induction ns with
        | nil => rfl
        | cons a ns ih => exact ⟨_, _, rfl, by show V.int (0 + (a : Int)) = V.int (a : Int); rw [Int.zero_add], ih⟩
      rw [Int.sub_zero]
      exact go _
    · exact q1.elim
  | _ => exact q1.elim
end
end MP
end
section
set_option maxRecDepth 100000
set_option maxHeartbeats 8000000
/-! MPSnd19: every expression that the static look lets. -/
namespace MP
open PySem L2
variable [Glo]
section
variable {T : Tab} {C : Nat → Addr} {c : Cxt} {n : Nat}
/-- an expression's reading, as a value, as a test -/
structure Good (C : Nat → Addr) (W : WX) (c : Cxt) (X : Cx) (x : Expr) (e : Ex) : Prop where
  v : PE X x (evT C W c e)
  t : PT X x (evTT C W c e)
  b : ∀ op xs pos, x = .BoolOp op xs pos → PW X x (evTT C W c e)
theorem Good.plain {W : WX} {X : Cx} {x : Expr} {e : Ex} (h : PE X x (evT C W c e)) (hx : ∀ w, isTrue x X.env w = (do let v ← w; standAt x.pos; holding [v] (truthy v))) (hb : ∀ op xs pos, x ≠ .BoolOp op xs pos) : Good C W c X x e :=
  ⟨h, tt_of h hx, fun op xs pos e => absurd e (hb op xs pos)⟩
theorem GX.blk {W : WX} {se : SE} {X : Cx} (G : GX T C W c n se X) (s : Shared) (H : Hp) (sc : Scope) (B : Addr) (cl : List (Str × Addr)) (fp : List Addr) : GX T C WF c n (se.blk sc) (X.blk s H sc (compEnvC sc cl B X.env) fp) where
  N := G.N
  nd := G.nd
  sc := by
    show relS sc X.env.scope = relS sc se.sc
    rw [G.sc]
  fn := fun x h => h
  calm := G.calm
  gd := G.gd
  room := G.room
  bl := G.bl
  con := G.con
  nf := G.nf
  fns := G.fns
  nx := G.nx
  exc := G.exc
  exk := G.exk
  sp := G.sp
  ps := fun σ pins H s e s' I h => by
    obtain ⟨a, B, H', cls, d, _, _, _, _, _, _, _, z⟩ := h
    exact z
theorem GX.sx {W : WX} {se : SE} {X : Cx} (G : GX T C W c n se X) : SX se X := ⟨G.N, G.nd, G.sc, G.fn, G.calm⟩
theorem pt_ife {X : Cx} {t a b : Expr} {tt ta tb : TT} {pos : Pos} (ht : PT X t tt) (ha : PT X a ta) (hb : PT X b tb) : PT X (.IfExp t a b pos) (fun σ H Q => tt σ H fun k H1 => if k = true then ta σ H1 Q else tb σ H1 Q) := by
  refine ⟨fun pins s σ H Q I h => ?_⟩
  show wpAny _ _ (do if ← isTrue t X.env (eval t X.env) then isTrue a X.env (eval a X.env) else isTrue b X.env (eval b X.env)) _ _ s
  refine wpAny_bind (thn (ht.run pins s σ H _ I h) fun k s1 ⟨H1, I1, q⟩ => ?_)
  cases k with
  | true =>
    rw [if_pos rfl] at q
    exact ha.run pins s1 σ H1 Q I1 q
  | false =>
    rw [if_neg Bool.false_ne_true] at q
    exact hb.run pins s1 σ H1 Q I1 q
theorem tIfT_of {W : WX} {t a b : Ex} {σ : L2.St} {H : Hp} {Q : Bool → Hp → Prop} (h : evTT C W c (.ife t a b) σ H Q) : evTT C W c t σ H fun k H1 => if k = true then evTT C W c a σ H1 Q else evTT C W c b σ H1 Q := by
  obtain ⟨F, ρ, hs, hl, w⟩ := h
  rw [ev, bind_assoc] at w
  refine ⟨F, ρ, hs, hl, (bindB (fun d st e => ?_) w).eq_mono fun F1 H1 k x s q => ?_⟩
  · cases d <;> first | (cases e; done) | rfl
  · cases k with
    | true =>
      rw [if_pos rfl]
      exact ⟨F1, ρ, s, hl.ext x, q⟩
    | false =>
      rw [if_neg Bool.false_ne_true]
      exact ⟨F1, ρ, s, hl.ext x, q⟩
theorem blt_of {W : WX} {b : Bf} {es : Exs} {σ : L2.St} {H : Hp} {Q : VK} (h : evT C W c (.blt b es) σ H Q) : evsT C W c es σ H fun vs H1 => rBlt b vs H1 Q := by
  obtain ⟨F, ρ, hs, hl, w⟩ := h
  rw [ev] at w
  refine ⟨F, ρ, hs, hl, (Aft.bind w).mono fun F1 H1 ds vs x1 s1 r1 q1 => ?_⟩
  cases e : bltD F1.st b ds with
  | none => rw [e] at q1; exact q1.elim
  | some z =>
    rw [e] at q1
    exact ⟨F1, ds, z, s1, r1, e, fun H' v x s r => q1 F1 H' v rfl x s r⟩
theorem pe_bltB {W : WX} {se : SE} {X : Cx} (G : GX T C W c n se X) {b : Bf} {es : Exs} {xs : List Expr} {id : String} {x : Str} {p pos : Pos} (hr : CallR X (.builtin id) (rBlt b)) (g : gloB se.sc x = true) (hm : x ∈ bnames) (hv : bootBuiltins x = some (.builtin id)) (hn : x ≠ "__name__") (hd : (x == ("__debug__" : Str)) = false) (ha : PA X xs (evsT C W c es)) (hs : noStars xs = true) (hne : xs.isEmpty = false) :
    PE X (.Call (.Name x p) xs [] pos) (evT C W c (.blt b es)) := by
  cases xs with
  | nil => cases hne
  | cons y ys =>
    have h1 : isStar y = false ∧ noStars ys = true := by
      unfold noStars at hs ⊢
      rw [List.all_cons, Bool.and_eq_true, Bool.not_eq_true'] at hs
      exact hs
    exact imp_e (pe_callB hr (gloB_ok (by rw [G.sc]; exact g)) (G.bl _ hm) hv ha hn hd (star_cons h1.1) (stars_any h1.2)) fun σ H Q w => blt_of w
theorem pe_bltT {W : WX} {se : SE} {X : Cx} (G : GX T C W c n se X) {b : Bf} {es : Exs} {xs : List Expr} {id : String} {x : Str} {p pos : Pos} (hr : CallR X (.type id) (rBlt b)) (g : gloB se.sc x = true) (hm : x ∈ bnames) (hv : bootBuiltins x = some (.type id)) (hn : x ≠ "__name__") (hd : (x == ("__debug__" : Str)) = false) (ha : PA X xs (evsT C W c es)) (hs : noStars xs = true) (hne : xs.isEmpty = false) :
    PE X (.Call (.Name x p) xs [] pos) (evT C W c (.blt b es)) := by
  cases xs with
  | nil => cases hne
  | cons y ys =>
    have h1 : isStar y = false ∧ noStars ys = true := by
      unfold noStars at hs ⊢
      rw [List.all_cons, Bool.and_eq_true, Bool.not_eq_true'] at hs
      exact hs
    exact imp_e (pe_callTy hr (gloB_ok (by rw [G.sc]; exact g)) (G.bl _ hm) hv ha hn hd (star_cons h1.1) (stars_any h1.2)) fun σ H Q w => blt_of w
theorem cr_none {X : Cx} {b : Bf} {f : Value} (h : ∀ st ds, bltD st b ds = none) : CallR X f (rBlt b) := fun pins s σ H xs us Q I r ⟨F, ds, z, hs, rs, hz, q⟩ => by
  rw [h] at hz
  cases hz
theorem mt_none {X : Cx} {m : Mt} {id : String} (h : ∀ st d ds, metD st m d ds = none) : MtR X id (rMt m) := fun pins s σ H x xs v us Q I rx rxs ⟨F, d, ds, z, st', hs, rd, rs, hm, q⟩ => by
  rw [h] at hm
  cases hm
/-- the built-ins that take their arguments as they are -/
def isPl : Bf → Bool
  | .isi _ => false
  | .isis _ => false
  | .lrng => false
  | _ => true
theorem pe_bltP {W : WX} {se : SE} {X : Cx} (G : GX T C W c n se X) {b : Bf} {es : Exs} {xs : List Expr} {p pos : Pos} (hb : isPl b = true) (g : gloB se.sc (blName b) = true) (ha : PA X xs (evsT C W c es)) (hs : noStars xs = true) (hne : xs.isEmpty = false) :
    PE X (.Call (.Name (blName b) p) xs [] pos) (evT C W c (.blt b es)) := by
  cases b with
  | len => exact pe_bltB G cr_lenF g (by decide) boot_len (by decide) (by decide) ha hs hne
  | any => exact pe_bltB G (cr_anyF G.calm) g (by decide) PyProof.Rows.boot_any (by decide) (by decide) ha hs hne
  | all => exact pe_bltB G (cr_allF G.calm) g (by decide) PyProof.Rows.boot_all (by decide) (by decide) ha hs hne
  | sum => exact pe_bltB (id := "sum") G (cr_sumF G.calm) g (by decide) (by decide +kernel) (by decide) (by decide) ha hs hne
  | sum2 => exact pe_bltB (id := "sum") G (cr_none fun st ds => by cases ds <;> rfl) g (by decide) (by decide +kernel) (by decide) (by decide) ha hs hne
  | sorted => exact pe_bltB G (cr_sortedF G.room) g (by decide) PyProof.Rows.boot_sorted (by decide) (by decide) ha hs hne
  | int => exact pe_bltT G cr_intF g (by decide) PyProof.Rows.boot_int (by decide) (by decide) ha hs hne
  | str => exact pe_bltT G (cr_strF G.room G.gd) g (by decide) PyProof.Rows.boot_str (by decide) (by decide) ha hs hne
  | list => exact pe_bltT G cr_listF g (by decide) PyProof.Rows.boot_list (by decide) (by decide) ha hs hne
  | tuple => exact pe_bltT G cr_tupleF g (by decide) PyProof.Rows.boot_tuple (by decide) (by decide) ha hs hne
  | max2 => exact pe_bltB G (cr_max2F G.calm) g (by decide) PyProof.Rows.boot_max (by decide) (by decide) ha hs hne
  | min2 => exact pe_bltB (id := "min") G (cr_min2F G.calm) g (by decide) (by decide +kernel) (by decide) (by decide) ha hs hne
  | max => exact pe_bltB G (cr_maxF G.calm) g (by decide) PyProof.Rows.boot_max (by decide) (by decide) ha hs hne
  | abs => exact pe_bltB (id := "abs") G cr_absF g (by decide) (by decide +kernel) (by decide) (by decide) ha hs hne
  | repr => exact pe_bltB G (cr_repr G.room G.gd) g (by decide) PyProof.Rows.boot_repr (by decide) (by decide) ha hs hne
  | ord => exact pe_bltB G cr_ordF g (by decide) PyProof.Rows.boot_ord (by decide) (by decide) ha hs hne
  | _ => cases hb

mutual
theorem okE_ok : ∀ (e : Ex) {W : WX} {se : SE} {X : Cx} {x : Expr}, GX T C W c n se X → okE T se e x = true → Good C W c X x e
  | .nm i, W, se, X, x, G, h => by
    rw [okE] at h
    split at h
    · rename_i m hm
      obtain ⟨p, rfl⟩ := asName_eq hm
      simp only [Bool.and_eq_true, decide_eq_true_eq] at h
      exact .plain (pe_nmF G h.1 h.2.1 h.2.2) (fun _ => rfl) fun _ _ _ z => nomatch z
    · cases h
  | .kn d, W, se, X, x, G, h => by
    rw [okE] at h
    split at h
    · rename_i m hm
      obtain ⟨j, p, rfl⟩ := asConst_eq hm
      exact .plain (pe_knF h) (fun _ => rfl) fun _ _ _ z => nomatch z
    · cases h
  | .con g, W, se, X, x, G, h => by
    rw [okE] at h
    split at h
    · rename_i m hm
      obtain ⟨p, rfl⟩ := asName_eq hm
      simp only [Bool.and_eq_true, decide_eq_true_eq] at h
      exact .plain (pe_conF G h.1 h.2.1 h.2.2) (fun _ => rfl) fun _ _ _ z => nomatch z
    · cases h
  | .bin op a b, W, se, X, x, G, h => by
    rw [okE] at h
    split at h
    · rename_i a' o b' hm
      obtain ⟨p, rfl⟩ := asBin_eq hm
      simp only [Bool.and_eq_true] at h
      exact .plain (pe_bin h.1 (okE_ok a G h.2.1).v (okE_ok b G h.2.2).v) (fun _ => rfl) fun _ _ _ z => nomatch z
    · cases h
  | .neg a, W, se, X, x, G, h => by
    rw [okE] at h
    split at h
    · rename_i a' hm
      obtain ⟨p, rfl⟩ := asUn_eq hm
      refine .plain (imp_e (pe_un un_neg (okE_ok a G h).v) fun σ H Q ⟨F, ρ, hs, hl, w⟩ => ?_) (fun _ => rfl) fun _ _ _ z => nomatch z
      rw [ev] at w
      refine ⟨F, ρ, hs, hl, (Aft.bind w).mono fun F1 H1 d v x1 s1 r1 q1 => ?_⟩
      cases d with
      | int i => exact ⟨i, r1, q1.val s1 rfl⟩
      | _ => exact q1.elim
    · cases h
  | .cmp op a b, W, se, X, x, G, h => by
    rw [okE] at h
    split at h
    · rename_i a' o b' hm
      obtain ⟨p, rfl⟩ := asCmp1_eq hm
      simp only [Bool.and_eq_true, Bool.not_eq_true'] at h
      have ha := (okE_ok a G h.2.2.1).v
      have hb := (okE_ok b G h.2.2.2).v
      refine ⟨pe_cmp G.room h.1 h.2.1 ha hb, ?_, fun _ _ _ z => nomatch z⟩
      exact imp_t (pt_cmpR (op_cmp G.room h.1) ha hb h.2.1) fun σ H Q w => evT_cmp (e := .cmp op a b) (f := fun st x y => cmpD st op x y) (fun _ _ => by rw [ev]) (tt_val w)
    · cases h
  | .chn o p a b d, W, se, X, x, G, h => by
    rw [okE] at h
    split at h
    · rename_i a' o' b' p' d' hm
      obtain ⟨p, rfl⟩ := asCmp2_eq hm
      simp only [Bool.and_eq_true, Bool.not_eq_true'] at h
      obtain ⟨h1, h2, h3, h4, h5, h6⟩ := h
      have ha := (okE_ok a G h4).v
      have hb := (okE_ok b G h5).v
      have hd := (okE_ok d G h6).v
      refine ⟨pe_chn G.room h1 h2 h3 ha hb hd, ?_, fun _ _ _ z => nomatch z⟩
      exact imp_t (pt_chain (op_cmp G.room h1) (op_cmp G.room h2) ha hb hd h3) fun σ H Q w => evT_chn (tt_val w)
    · cases h
  | .and a b, W, se, X, x, G, h => by
    rw [okE] at h
    split at h
    · rename_i a' b' hm
      rw [Bool.and_eq_true] at h
      have ha := okE_ok a G h.1
      have hb := okE_ok b G h.2
      rcases asAnd_eq hm with ⟨p, rfl⟩ | ⟨b1, c1, r, p, rfl, rfl⟩
      · have hw : PW X (.BoolOp .And [a', b'] p) (evTT C W c (.and a b)) := imp_w (pw_and ha.t (pw_and1 hb.t)) fun σ H Q w => tAnd_of w
        exact ⟨imp_e (pe_and ha.v (pe_one hb.v)) fun σ H Q w => tAndV_of w, hw.pt, fun _ _ _ _ => hw⟩
      · have hw : PW X (.BoolOp .And (a' :: b1 :: c1 :: r) p) (evTT C W c (.and a b)) := imp_w (pw_and ha.t (hb.b _ _ _ rfl)) fun σ H Q w => tAnd_of w
        exact ⟨imp_e (pe_and ha.v hb.v) fun σ H Q w => tAndV_of w, hw.pt, fun _ _ _ _ => hw⟩
    · cases h
  | .or a b, W, se, X, x, G, h => by
    rw [okE] at h
    split at h
    · rename_i a' b' hm
      rw [Bool.and_eq_true] at h
      have ha := okE_ok a G h.1
      have hb := okE_ok b G h.2
      rcases asOr_eq hm with ⟨p, rfl⟩ | ⟨b1, c1, r, p, rfl, rfl⟩
      · have hw : PW X (.BoolOp .Or [a', b'] p) (evTT C W c (.or a b)) := imp_w (pw_or ha.t (pw_or1 hb.t)) fun σ H Q w => tOr_of w
        exact ⟨imp_e (pe_or ha.v (pe_one hb.v)) fun σ H Q w => tOrV_of w, hw.pt, fun _ _ _ _ => hw⟩
      · have hw : PW X (.BoolOp .Or (a' :: b1 :: c1 :: r) p) (evTT C W c (.or a b)) := imp_w (pw_or ha.t (hb.b _ _ _ rfl)) fun σ H Q w => tOr_of w
        exact ⟨imp_e (pe_or ha.v hb.v) fun σ H Q w => tOrV_of w, hw.pt, fun _ _ _ _ => hw⟩
    · cases h
  | .not a, W, se, X, x, G, h => by
    rw [okE] at h
    split at h
    · rename_i a' hm
      obtain ⟨p, rfl⟩ := asUn_eq hm
      have ha := okE_ok a G h
      exact ⟨imp_e (pe_not ha.v) fun σ H Q w => tNotV_of w, imp_t (pt_not ha.t) fun σ H Q w => tNot_of w, fun _ _ _ z => nomatch z⟩
    · cases h
  | .ife t a b, W, se, X, x, G, h => by
    rw [okE] at h
    split at h
    · rename_i t' a' b' hm
      obtain ⟨p, rfl⟩ := asIf_eq hm
      simp only [Bool.and_eq_true] at h
      have ht := okE_ok t G h.1
      have ha := okE_ok a G h.2.1
      have hb := okE_ok b G h.2.2
      exact ⟨imp_e (pe_ifExp ht.t ha.v hb.v) fun σ H Q w => tIf_of w, imp_t (pt_ife ht.t ha.t hb.t) fun σ H Q w => tIfT_of w, fun _ _ _ z => nomatch z⟩
    · cases h
  | .lst es, W, se, X, x, G, h => by
    rw [okE] at h
    split at h
    · rename_i xs hm
      obtain ⟨p, rfl⟩ := asList_eq hm
      exact .plain (pe_lstF (okEs_ok es G h)) (fun _ => rfl) fun _ _ _ z => nomatch z
    · cases h
  | .tup es, W, se, X, x, G, h => by
    rw [okE] at h
    split at h
    · rename_i xs hm
      obtain ⟨k, p, rfl⟩ := asTup_eq hm
      exact .plain (pe_tupF (okEs_ok es G h)) (fun _ => rfl) fun _ _ _ z => nomatch z
    · cases h
  | .dic0, W, se, X, x, G, h => by
    rw [okE] at h
    obtain ⟨p, rfl⟩ := isDic0_eq h
    exact .plain pe_dic0F (fun _ => rfl) fun _ _ _ z => nomatch z
  | .sub a b, W, se, X, x, G, h => by
    rw [okE] at h
    split at h
    · rename_i a' b' hm
      obtain ⟨p, rfl⟩ := asSub_eq hm
      simp only [Bool.and_eq_true, Bool.not_eq_true'] at h
      exact .plain (pe_subF h.1 (okE_ok a G h.2.1).v (okE_ok b G h.2.2).v) (fun _ => rfl) fun _ _ _ z => nomatch z
    · cases h
  | .slc a lo hi, W, se, X, x, G, h => by
    rw [okE] at h
    split at h
    · rename_i a' l r hm
      obtain ⟨q, p, rfl⟩ := asSlc_eq hm
      simp only [Bool.and_eq_true] at h
      exact .plain (pe_slcF (okE_ok a G h.1).v (okO_ok lo G h.2.1) (okO_ok hi G h.2.2)) (fun _ => rfl) fun _ _ _ z => nomatch z
    · cases h
  | .rev a, W, se, X, x, G, h => by
    rw [okE] at h
    split at h
    · rename_i a' hm
      obtain ⟨k, p1, p2, p3, p, rfl⟩ := asRev_eq hm
      exact .plain (pe_revF (okE_ok a G h).v) (fun _ => rfl) fun _ _ _ z => nomatch z
    · cases h
  | .rvb a n, W, se, X, x, G, h => by
    rw [okE] at h
    split at h
    · rename_i a' m hm
      obtain ⟨j, p0, k, p1, p2, p3, p, rfl⟩ := asRvb_eq hm
      simp only [Bool.and_eq_true, decide_eq_true_eq] at h
      obtain ⟨h1, h2⟩ := h
      subst h1
      exact .plain (pe_rvbF (okE_ok a G h2).v) (fun _ => rfl) fun _ _ _ z => nomatch z
    · cases h
  | .lc y tg tp s i own, W, se, X, x, G, h => by
    rw [okE] at h
    split at h
    · rename_i y' tg' it ifs sc hm
      obtain ⟨p, rfl⟩ := asLc_eq hm
      simp only [Bool.and_eq_true, decide_eq_true_eq] at h
      obtain ⟨h0, h1, h2, h3, h4, h5, h6, h7⟩ := h
      have hi := okS_ok s G h1
      have bk := fun s H B cl fp => G.blk s H sc B cl fp
      rw [List.all_eq_true] at h7
      have pe := pe_lc G.calm (by rw [G.N]; exact G.nd) hi (own := ownS se.N own) (by rw [G.N, G.sc]; exact blkOk_by h5) (fun s H B cl fp => pg_F (bk s H B cl fp).sx h4) (fun s H B cl fp => okT_ok i (bk s H B cl fp) h2) (fun s H B cl fp => (okE_ok y (bk s H B cl fp) h3).v) (notSet_ok h0) (pos := p)
      rw [h6] at pe
      exact .plain (imp_e pe fun σ H Q w => tLc_of (fun j hj => by simpa using h7 j hj) w) (fun _ => rfl) fun _ _ _ z => nomatch z
    · cases h
  | .cal f es, W, se, X, x, G, h => by
    rw [okE] at h
    split at h
    · rename_i m xs hm
      obtain ⟨p, q, rfl⟩ := asCall_eq hm
      simp only [Bool.and_eq_true, decide_eq_true_eq, Bool.not_eq_true'] at h
      obtain ⟨h1, h2, h3, h4, h5, h6⟩ := h
      exact .plain (pe_calF G h1 h2 h3 (okEs_ok es G h4) h5 h6 fun σ H Q w => cal_of w) (fun _ => rfl) fun _ _ _ z => nomatch z
    · cases h
  | .pur f es, W, se, X, x, G, h => by
    rw [okE] at h
    split at h
    · rename_i m xs hm
      obtain ⟨p, q, rfl⟩ := asCall_eq hm
      simp only [Bool.and_eq_true, decide_eq_true_eq, Bool.not_eq_true'] at h
      obtain ⟨h1, h2, h3, h4, h5, h6⟩ := h
      exact .plain (pe_calF G h1 h2 h3 (okEs_ok es G h4) h5 h6 fun σ H Q w => pur_of w) (fun _ => rfl) fun _ _ _ z => nomatch z
    · cases h
  | .fn f, W, se, X, x, G, h => by
    rw [okE] at h
    split at h
    · rename_i m hm
      obtain ⟨p, rfl⟩ := asName_eq hm
      simp only [Bool.and_eq_true, decide_eq_true_eq] at h
      exact .plain (pe_fnF G h.1 h.2.1 h.2.2) (fun _ => rfl) fun _ _ _ z => nomatch z
    · cases h
  | .cav i es, W, se, X, x, G, h => by
    rw [okE] at h
    split at h
    · rename_i m xs hm
      obtain ⟨p, q, rfl⟩ := asCall_eq hm
      simp only [Bool.and_eq_true, decide_eq_true_eq, Bool.not_eq_true'] at h
      obtain ⟨h1, h2, h3, h4, h5, h6⟩ := h
      exact .plain (pe_cavF G h1 h2 h3 (okEs_ok es G h4) h5 h6) (fun _ => rfl) fun _ _ _ z => nomatch z
    · cases h
  | .cak f es ks ix, W, se, X, x, G, h => by
    rw [okE] at h
    split at h
    · rename_i m xs kws hm
      obtain ⟨p, q, rfl⟩ := asCallK_eq hm
      simp only [Bool.and_eq_true, decide_eq_true_eq, Bool.not_eq_true'] at h
      obtain ⟨h1, h2, h3, h4, h5, h6, h7, h8⟩ := h
      exact .plain (pe_cakF G h1 h2 h3 (okEs_ok es G h4) (okK_ok ks G h5) h4 h5 h6 h7 h8) (fun _ => rfl) fun _ _ _ z => nomatch z
    · cases h
  | .val e, W, se, X, x, G, h => by
    rw [okE] at h
    split at h
    · rename_i o a hm
      obtain ⟨p, rfl⟩ := asAttr_eq hm
      simp only [Bool.and_eq_true, decide_eq_true_eq] at h
      obtain ⟨h1, h2, h3⟩ := h
      subst h1
      exact .plain (pe_valF G (okE_ok e G h2).v h3) (fun _ => rfl) fun _ _ _ z => nomatch z
    · cases h
  | .blt b es, W, se, X, x, G, h => by
    rw [okE] at h
    split at h
    · rename_i m xs hm
      obtain ⟨p, q, rfl⟩ := asCall_eq hm
      rw [Bool.and_eq_true, Bool.and_eq_true, decide_eq_true_eq] at h
      obtain ⟨h1, h2, h3⟩ := h
      subst h1
      refine .plain ?_ (fun _ => rfl) fun _ _ _ z => nomatch z
      have ih : ∀ {y : Expr}, okEs T se es [y] = true → ∃ e, es = .cons e .nil ∧ PE X y (evT C W c e) := fun {y} h => by
        match es, h with
        | .cons e .nil, h =>
          rw [okEs, Bool.and_eq_true] at h
          exact ⟨e, rfl, (okE_ok e G h.1).v⟩
        | .cons _ (.cons _ _), h => simp [okEs] at h
        | .nil, h => simp [okEs] at h
      have pl : isPl b = true → (okEs T se es xs && (noStars xs && !xs.isEmpty)) = true → PE X (.Call (.Name (blName b) p) xs [] q) (evT C W c (.blt b es)) := fun hb h3 => by
        simp only [Bool.and_eq_true, Bool.not_eq_true'] at h3
        exact pe_bltP G hb h2 (okEs_ok es G h3.1) h3.2.1 h3.2.2
      cases b with
      | isi t =>
        simp only at h3
        split at h3
        · rename_i y z
          split at h3
          · rename_i tn hz
            obtain ⟨q', rfl⟩ := asName_eq hz
            simp only [Bool.and_eq_true, Bool.not_eq_true'] at h3
            obtain ⟨k1, k2, k3, k4, k5⟩ := h3
            obtain ⟨e, rfl, pe⟩ := ih k2
            cases t with
            | exc k =>
              simp only [decide_eq_true_eq] at k5
              exact pe_isixF G h2 k5 k3 k4 pe k1
            | _ =>
              simp only [decide_eq_true_eq] at k5
              subst k5
              exact pe_isiF G rfl h2 k3 pe k1
          · cases h3
        · cases h3
      | isis ts =>
        simp only at h3
        split at h3
        · rename_i y z
          split at h3
          · rename_i zs hz
            obtain ⟨kk, q', rfl⟩ := asTup_eq hz
            simp only [Bool.and_eq_true, Bool.not_eq_true', decide_eq_true_eq, List.all_eq_true] at h3
            obtain ⟨k1, k2, k3, k4, k5, k6⟩ := h3
            obtain ⟨e, rfl, pe⟩ := ih k4
            exact pe_isisF G h2 k5 (fun t ht => k6 t ht) (by intro z; rw [z] at k2; cases k2) (by show ts.length ≤ 16777216; omega) pe k1
          · cases h3
        · cases h3
      | lrng =>
        simp only at h3
        split at h3
        · rename_i y
          split at h3
          · rename_i r a hz
            obtain ⟨p', q', rfl⟩ := asCall_eq hz
            simp only [Bool.and_eq_true, Bool.not_eq_true', decide_eq_true_eq] at h3
            obtain ⟨k1, k2, k3, k4⟩ := h3
            subst k1
            obtain ⟨e, rfl, pe⟩ := ih k3
            exact pe_lrngF G h2 k2 pe k4
          · cases h3
        · cases h3
      | _ => exact pl rfl h3
    · cases h
  | .met m a es, W, se, X, x, G, h => by
    rw [okE] at h
    split at h
    · rename_i o nm xs hm
      obtain ⟨ap, cp, rfl, hl⟩ := asMeth_eq hm
      simp only [Bool.and_eq_true, decide_eq_true_eq] at h
      obtain ⟨h1, h2, h3, h4, h5, h6⟩ := h
      subst h1
      have ho := (okE_ok a G h2).v
      have ha := okEs_ok es G h3
      have hn : xs = [] → es = .nil := fun e => by
        subst e
        cases es with
        | nil => rfl
        | cons _ _ => simp [okEs] at h3
      have l : ∀ (F : Fr) (H : Hp) d v, Sto F H → Rep F H d v → (items F.st d).isSome = true → tyV X.K "list" v H := fun F H d v s r h => ty_list s r h
      have l2 : ∀ (F : Fr) (H : Hp) d v, Sto F H → Rep F H d v → metTy F.st .join d = true → tyV X.K "str" v H := fun F H d v s r h => ty_str h r
      refine .plain ?_ (fun _ => rfl) fun _ _ _ z => nomatch z
      cases m with
      | append => exact meth1 PySem.F.plainAttrs_list PySem.F.slot_list_append PySem.F.type_list_append mt_appendF l ho ha h4 h5 h6 hl hn
      | pop => exact meth1 PySem.F.plainAttrs_list PySem.F.slot_list_pop PySem.F.type_list_pop mt_popF l ho ha h4 h5 h6 hl hn
      | popAt => exact meth1 PySem.F.plainAttrs_list PySem.F.slot_list_pop PySem.F.type_list_pop mt_popAtF l ho ha h4 h5 h6 hl hn
      | index => exact meth1 PySem.F.plainAttrs_list PySem.F.slot_list_index PySem.F.type_list_index (mt_indexF G.room) l ho ha h4 h5 h6 hl hn
      | join => exact meth1 PySem.F.plainAttrs_str PySem.F.slot_str_join PySem.F.type_str_join mt_joinF l2 ho ha h4 h5 h6 hl hn
      | split => exact meth1 PySem.F.plainAttrs_str PySem.F.slot_str_split PySem.F.type_str_split mt_splitF l2 ho ha h4 h5 h6 hl hn
      | count => exact meth1 PySem.F.plainAttrs_list PySem.F.slot_list_count PySem.F.type_list_count (mt_none (m := .count) fun st d ds => rfl) l ho ha h4 h5 h6 hl hn
      | bits => exact meth1 (ty := "int") PySem.F.plainAttrs_int PyProof.Rows.slot_int_bit_length PyProof.Rows.type_int_bit_length (mt_none (m := .bits) fun st d ds => rfl) (fun F H d v s r h => by cases h) ho ha h4 h5 h6 hl hn
    · cases h
  | .mk e, W, se, X, x, G, h0 => match e, h0 with
    | .lst es, h => by
      simp only [okE, Bool.true_and] at h
      split at h
      · rename_i xs hm
        obtain ⟨p, rfl⟩ := asList_eq hm
        exact .plain (pe_mkLst (okEs_ok es G h)) (fun _ => rfl) fun _ _ _ z => nomatch z
      · cases h
    | .bin op a b, h => by
      cases op with
      | add =>
        simp only [okE, Bool.true_and] at h
        split at h
        · rename_i a' o b' hm
          obtain ⟨p, rfl⟩ := asBin_eq hm
          simp only [Bool.and_eq_true] at h
          cases o <;> first | (cases h.1; done) | skip
          exact .plain (pe_mkAdd (okE_ok a G h.2.1).v (okE_ok b G h.2.2).v) (fun _ => rfl) fun _ _ _ z => nomatch z
        · cases h
      | _ => simp [okE] at h
    | .blt b (.cons e .nil), h => by
      cases b with
      | list =>
        simp only [okE, Bool.true_and] at h
        split at h
        · rename_i m xs hm
          obtain ⟨p, q, rfl⟩ := asCall_eq hm
          simp only [Bool.and_eq_true, decide_eq_true_eq, Bool.not_eq_true'] at h
          obtain ⟨h1, h2, h3, h4, h5⟩ := h
          subst h1
          rcases xs with _ | ⟨y, _ | ⟨_, _⟩⟩
          · cases h5
          · rw [okEs, Bool.and_eq_true] at h3
            have hsy : isStar y = false := by simpa [noStars] using h4
            exact .plain (pe_mkList G h2 (okE_ok e G h3.1).v hsy) (fun _ => rfl) fun _ _ _ z => nomatch z
          · simp [okEs] at h3
        · cases h
      | _ => simp [okE] at h
    | .lc y tg tp s i own, h => by
      simp only [okE, Bool.true_and] at h
      split at h
      · rename_i y' tg' it ifs sc hm
        obtain ⟨p, rfl⟩ := asLc_eq hm
        simp only [Bool.and_eq_true, decide_eq_true_eq] at h
        obtain ⟨h0, h1, h2, h3, h4, h5, h6, h7⟩ := h
        have hi := okS_ok s G h1
        have bk := fun s H B cl fp => G.blk s H sc B cl fp
        rw [List.all_eq_true] at h7
        have pe := pe_lc G.calm (by rw [G.N]; exact G.nd) hi (own := ownS se.N own) (by rw [G.N, G.sc]; exact blkOk_by h5) (fun s H B cl fp => pg_F (bk s H B cl fp).sx h4) (fun s H B cl fp => okT_ok i (bk s H B cl fp) h2) (fun s H B cl fp => (okE_ok y (bk s H B cl fp) h3).v) (notSet_ok h0) (pos := p)
        rw [h6] at pe
        exact .plain (imp_e pe fun σ H Q w => mkLc_of (fun j hj => by simpa using h7 j hj) w) (fun _ => rfl) fun _ _ _ z => nomatch z
      · cases h
    | .nm _, h | .kn _, h | .con _, h | .neg _, h | .cmp _ _ _, h | .chn _ _ _ _ _, h | .and _ _, h | .or _ _, h | .not _, h | .ife _ _ _, h | .tup _, h | .dic0, h | .sub _ _, h | .slc _ _ _, h | .rev _, h | .rvb _ _, h | .cal _ _, h | .pur _ _, h | .fn _, h | .cav _ _, h | .cak _ _ _ _, h | .val _, h | .met _ _ _, h | .mk _, h | .frz _, h => by simp [okE] at h
    | .blt b .nil, h => by cases b <;> simp [okE] at h
    | .blt b (.cons _ (.cons _ _)), h => by cases b <;> simp [okE] at h
  | .frz e, W, se, X, x, G, h => by
    have g := fun h2 => okE_ok e G (x := x) h2
    cases e with
    | nm i =>
      simp only [okE, Bool.true_and] at h
      have g := g (by rw [okE]; exact h)
      split at h
      · rename_i m hm
        obtain ⟨p, rfl⟩ := asName_eq hm
        exact .plain (pe_frzF g.v) (fun _ => rfl) fun _ _ _ z => nomatch z
      · cases h
    | cal f es =>
      simp only [okE, Bool.true_and] at h
      have g := g (by rw [okE]; exact h)
      split at h
      · rename_i m xs hm
        obtain ⟨p, q, rfl⟩ := asCall_eq hm
        exact .plain (pe_frzF g.v) (fun _ => rfl) fun _ _ _ z => nomatch z
      · cases h
    | cav f es =>
      simp only [okE, Bool.true_and] at h
      have g := g (by rw [okE]; exact h)
      split at h
      · rename_i m xs hm
        obtain ⟨p, q, rfl⟩ := asCall_eq hm
        exact .plain (pe_frzF g.v) (fun _ => rfl) fun _ _ _ z => nomatch z
      · cases h
    | cak f es ks ix =>
      simp only [okE, Bool.true_and] at h
      have g := g (by rw [okE]; exact h)
      split at h
      · rename_i m xs kws hm
        obtain ⟨p, q, rfl⟩ := asCallK_eq hm
        exact .plain (pe_frzF g.v) (fun _ => rfl) fun _ _ _ z => nomatch z
      · cases h
    | _ => simp [okE] at h
theorem okEs_ok : ∀ (es : Exs) {W : WX} {se : SE} {X : Cx} {xs : List Expr}, GX T C W c n se X → okEs T se es xs = true → PA X xs (evsT C W c es)
  | .nil, W, se, X, xs, G, h => by
    rw [okEs] at h
    cases xs with
    | nil => exact pa_nilF
    | cons _ _ => cases h
  | .cons e es, W, se, X, xs, G, h => by
    cases xs with
    | nil => simp [okEs] at h
    | cons x r =>
      rw [okEs, Bool.and_eq_true, Bool.and_eq_true, Bool.not_eq_true'] at h
      exact imp_a (pa_cons (okE_ok e G h.1).v (okEs_ok es G h.2.2) (star_cons h.2.1)) fun σ H Q w => evsT_cons w
theorem okK_ok : ∀ (es : Exs) {W : WX} {se : SE} {X : Cx} {ks : List Keyword}, GX T C W c n se X → okEs T se es (ks.map (·.value)) = true → PK X ks (evsT C W c es)
  | .nil, W, se, X, ks, G, h => by
    rw [okEs] at h
    cases ks with
    | nil =>
      refine ⟨fun pos pins s σ H Q I ⟨F, ρ, hs, hl, w⟩ => pk_nil.run pos pins s σ H Q I ?_⟩
      rw [evs] at w
      exact w.ok_now hs rfl
    | cons _ _ => cases h
  | .cons e es, W, se, X, ks, G, h => by
    cases ks with
    | nil => simp [okEs] at h
    | cons k r =>
      obtain ⟨a, v, q⟩ := k
      rw [List.map_cons, okEs, Bool.and_eq_true, Bool.and_eq_true] at h
      have pk := pk_cons (nm := a) (kpos := q) (okE_ok e G h.1).v (okK_ok es G h.2.2)
      exact ⟨fun pos pins s σ H Q I w => pk.run pos pins s σ H Q I (evsT_cons w)⟩
theorem okO_ok : ∀ (o : Ox) {W : WX} {se : SE} {X : Cx} {x : Option Expr}, GX T C W c n se X → okO T se o x = true → PO X x (evoT C W c o)
  | .non, W, se, X, x, G, h => by
    rw [okO] at h
    cases x with
    | none => exact po_non
    | some _ => cases h
  | .som e, W, se, X, x, G, h => by
    cases x with
    | none => simp [okO] at h
    | some y =>
      rw [okO] at h
      exact po_som (okE_ok e G h).v
theorem okT_ok : ∀ (o : Ox) {W : WX} {se : SE} {X : Cx} {xs : List Expr}, GX T C W c n se X → okT T se o xs = true → PTs X xs (evtT C W c o)
  | .non, W, se, X, x, G, h => by
    rw [okT] at h
    cases x with
    | nil => exact pts_non
    | cons _ _ => cases h
  | .som e, W, se, X, x, G, h => by
    rcases x with _ | ⟨y, _ | ⟨_, _⟩⟩
    · simp [okT] at h
    · rw [okT] at h
      exact pts_som (okE_ok e G h).t
    · simp [okT] at h
theorem okS_ok : ∀ (s : Sr) {W : WX} {se : SE} {X : Cx} {tg x : Expr}, GX T C W c n se X → okS T se tg s x = true → PI X tg x (evwT C W c s)
  | .lis e, W, se, X, tg, x, G, h => by
    rw [okS] at h
    exact pi_lisF (okE_ok e G h).v
  | .tpl e, W, se, X, tg, x, G, h => by
    rw [okS] at h
    exact pi_tplF (okE_ok e G h).v
  | .txt e, W, se, X, tg, x, G, h => by
    rw [okS] at h
    exact pi_txtF (okE_ok e G h).v
  | .rg1 e, W, se, X, tg, x, G, h => by
    rw [okS] at h
    split at h
    · rename_i m a hm
      obtain ⟨p, q, rfl⟩ := asCall_eq hm
      simp only [Bool.and_eq_true, decide_eq_true_eq, Bool.not_eq_true'] at h
      obtain ⟨h1, h2, h3, h4⟩ := h
      subst h1
      exact pi_rg1F (gloB_ok (by rw [G.sc]; exact h2)) (G.bl _ (by decide)) (star_cons h3) (imp_a (pa_cons (okE_ok e G h4).v pa_nilF (star_cons h3)) fun σ H Q w => evsT_cons w)
    · cases h
  | .rg2 e f, W, se, X, tg, x, G, h => by
    rw [okS] at h
    split at h
    · rename_i m a b hm
      obtain ⟨p, q, rfl⟩ := asCall_eq hm
      simp only [Bool.and_eq_true, decide_eq_true_eq, Bool.not_eq_true'] at h
      obtain ⟨h1, h2, h3, h4, h5, h6⟩ := h
      subst h1
      have pb := imp_a (pa_cons (okE_ok f G h6).v (pa_nilF (C := C) (W := W) (c := c)) (star_cons h4)) fun σ H Q w => evsT_cons w
      exact pi_rg2F (gloB_ok (by rw [G.sc]; exact h2)) (G.bl _ (by decide)) (by rw [star_cons h3, star_cons h4]; rfl) (star_cons h4) (imp_a (pa_cons (okE_ok e G h5).v pb (star_cons h3)) fun σ H Q w => evsT_cons w)
    · cases h
  | .enu e, W, se, X, tg, x, G, h => by
    rw [okS] at h
    split at h
    · rename_i m a hm
      obtain ⟨p, q, rfl⟩ := asCall_eq hm
      simp only [Bool.and_eq_true, decide_eq_true_eq, Bool.not_eq_true'] at h
      obtain ⟨h1, h2, h3, h4, h5⟩ := h
      subst h1
      obtain ⟨elts, he⟩ := Option.isSome_iff_exists.mp h5
      obtain ⟨kk, tp, rfl⟩ := asTup_eq he
      exact pi_enuF (gloB_ok (by rw [G.sc]; exact h2)) (G.bl _ (by decide)) (star_cons h3) (imp_a (pa_cons (okE_ok e G h4).v pa_nilF (star_cons h3)) fun σ H Q w => evsT_cons w)
    · cases h
  | .zip s e f, W, se, X, tg, x, G, h => by
    rw [okS] at h
    split at h
    · rename_i m a b hm
      obtain ⟨p, q, rfl⟩ := asCall_eq hm
      simp only [Bool.and_eq_true, decide_eq_true_eq, Bool.not_eq_true'] at h
      obtain ⟨h0, h1, h2, h3, h4, h5, h6, h7⟩ := h
      subst h1 h0
      obtain ⟨elts, he⟩ := Option.isSome_iff_exists.mp h7
      obtain ⟨kk, tp, rfl⟩ := asTup_eq he
      have pb := imp_a (pa_cons (okE_ok f G h6).v (pa_nilF (C := C) (W := W) (c := c)) (star_cons h4)) fun σ H Q w => evsT_cons w
      exact pi_zipF (gloB_ok (by rw [G.sc]; exact h2)) (G.bl _ (by decide)) (star_cons h3) (any_one h4) (imp_a (pa_cons (okE_ok e G h5).v pb (star_cons h3)) fun σ H Q w => evsT_cons w)
    · cases h
end
end
end MP
end
section
set_option maxRecDepth 100000
set_option maxHeartbeats 4000000
/-! MPSnd20: what a statement is to come through; assignments. -/
namespace MP
open PySem L2
variable [Glo]
/-- behind a statement -/
def AftE (C : Nat → Addr) (W : WX) (F : Fr) (H : Hp) (r : E) (D : Ends) : Prop := match r with
  | .nx ρ st => ∀ F' H' σ', F'.st = st → Ext F H F' H' → Sto F' H' → Slo F' H' ρ σ' → D.nx σ' H'
  | .bk ρ st => ∀ F' H' σ', F'.st = st → Ext F H F' H' → Sto F' H' → Slo F' H' ρ σ' → D.bk σ' H'
  | .ct ρ st => ∀ F' H' σ', F'.st = st → Ext F H F' H' → Sto F' H' → Slo F' H' ρ σ' → D.ct σ' H'
  | .rt d st => ∀ F' H' v, F'.st = st → Ext F H F' H' → Sto F' H' → Rep F' H' d v → D.rt v H'
  | .exc k d ρ st => ∀ F' H' σ' dx v, F'.st = st → Ext F H F' H' → Sto F' H' → Slo F' H' ρ σ' → H' dx = some (.xd [(("value" : Str), v)]) → ¬ F'.un dx → H dx = none → Rep F' H' d v → W (.ref (C k)) (some dx) σ' H'
  | .bad => False
section
variable {C : Nat → Addr} {W : WX} {F F₁ : Fr} {H H₁ : Hp} {D : Ends}
theorem AftE.later {r : E} (x : Ext F H F₁ H₁) (h : AftE C W F H r D) : AftE C W F₁ H₁ r D := by
  cases r with
  | nx ρ st => exact fun F' H' σ' e y s q => h F' H' σ' e (x.trans y) s q
  | bk ρ st => exact fun F' H' σ' e y s q => h F' H' σ' e (x.trans y) s q
  | ct ρ st => exact fun F' H' σ' e y s q => h F' H' σ' e (x.trans y) s q
  | rt d st => exact fun F' H' v e y s q => h F' H' v e (x.trans y) s q
  | exc k d ρ st => exact fun F' H' σ' dx v e y s l hd hu hn hr => h F' H' σ' dx v e (x.trans y) s l hd hu (x.there dx hn) hr
  | bad => exact h
theorem AftE.thn {α β : Type} {Rel : Fr → Hp → α → β → Prop} {r : R α} {f : α → Store → E} {ρ : Sl} {σ : L2.St} (hl : Slo F H ρ σ) (h : AftE C W F H (r.thn ρ f) D) :
    Aft Rel C (fun cl d H' => W cl d σ H') F H r (fun F1 H1 a _ => AftE C W F1 H1 (f a F1.st) D) := by
  cases r with
  | ok a st =>
    intro F' H' b e x s q
    subst e
    exact AftE.later x h
  | exc k d st => exact fun F' H' dx v e x s hd hu hn hr => h F' H' σ dx v e x s (hl.ext x) hd hu hn hr
  | bad => exact h
theorem AftE.nx_now {ρ : Sl} {σ : L2.St} (h : AftE C W F H (.nx ρ F.st) D) (s : Sto F H) (l : Slo F H ρ σ) : D.nx σ H := h F H σ rfl (Ext.refl F H) s l
theorem AftE.set {i : Nat} {d : MP.D} {v : V} {ρ : Sl} {σ : L2.St} (h : AftE C W F H (ofS (set1 i d ρ) F.st) D) (s : Sto F H) (l : Slo F H ρ σ) (r : Rep F H d v) : D.nx (σ.set i (some v)) H := by
  unfold set1 at h
  split at h
  · exact h.nx_now s (l.set i r)
  · exact h.elim
end
/-- a statement's reading -/
def stT (C : Nat → Addr) (W : WX) (c : Cxt) (s : Sm) : TS := fun D σ H => ∃ F ρ, Sto F H ∧ Slo F H ρ σ ∧ AftE C W F H (ex c s ρ F.st) D
def stsT (C : Nat → Addr) (W : WX) (c : Cxt) (s : Sms) : TS := fun D σ H => ∃ F ρ, Sto F H ∧ Slo F H ρ σ ∧ AftE C W F H (exs c s ρ F.st) D
/-- a class of the module, called with a value, makes an exception that holds it -/
def MkX (X : Cx) (k : Nat) (x : Str) : Prop := ∀ {y : Expr} {ty : TE} {p pos : Pos}, PE X y ty → isStar y = false → PMk X (.Call (.Name x p) [y] [] pos) (fun σ H Q => ty σ H fun v H1 => ∀ dx, H1 dx = none → Q (.ref (Glo.cl k)) (some dx) (upd H1 dx (.xd [(("value" : Str), v)])))
/-- a body's context -/
structure GS (T : Tab) (C : Nat → Addr) (W : WX) (c : Cxt) (n : Nat) (se : SE) (X : Cx) : Prop extends GX T C W c n se X where
  tk : Takes X W
  own : PassesOwn (model X.prog X.w) X.A X.env X.xe
  stk : X.stack = X.env :: X.outer
  frm : X.env.frame = some X.env.locals
  kd : se.sc.kind = .function
  mkx : ∀ k x, T.exc[k]? = some x → gloB se.sc x = true → okNm x = true → MkX X k x
theorem imp_s {X : Cx} {x : Stmt} {t t' : TS} (h : PS X x t) (q : ∀ D σ H, t' D σ H → t D σ H) : PS X x t' := ⟨fun pins s σ H D I w => h.run pins s σ H D I (q D σ H w)⟩
theorem imp_ss {X : Cx} {x : List Stmt} {t t' : TS} (h : PSs X x t) (q : ∀ D σ H, t' D σ H → t D σ H) : PSs X x t' := ⟨fun pins s σ H D I w => h.run pins s σ H D I (q D σ H w)⟩
section
variable {T : Tab} {C : Nat → Addr} {W : WX} {c : Cxt} {n : Nat} {se : SE} {X : Cx}
/-! ### name = e -/
def isComp : Expr → Bool
  | .ListComp _ _ _ _ => true
  | .SetComp _ _ _ _ => true
  | .DictComp _ _ _ _ _ => true
  | _ => false
/-- no swapping of the block's names with the target -/
def swB (se : SE) (x : Str) (p : Pos) : Expr → Bool
  | .ListComp e g sc q => !(decide (se.sc.names.lookup x = some .local)) || (!(p.line == q.line) || (sc.names.any fun (n, k) => n == x && (k == .local || k == .cell)))
  | e => !isComp e
theorem swB_ok {x : Str} {p : Pos} {e : Expr} {l : Nat} {env : Env} (hs : env.scope = se.sc) (h : swB se x p e = true) : swapsWith e (some (.Name x p)) l env = pure false := by
  cases e <;> first | rfl | (cases h; done) | skip
  rename_i el g sc q
  unfold swB at h
  unfold swapsWith
  show (pure (env.blockKind == .function && env.kindOf x == some .local && p.line == q.line && !(sc.names.any fun (n, k) => n == x && (k == .local || k == .cell))) : Sem Bool) = pure false
  have e1 : env.kindOf x = se.sc.names.lookup x := by rw [← hs]; rfl
  rw [e1]
  congr 1
  rw [Bool.or_eq_true, Bool.or_eq_true, Bool.not_eq_true', Bool.not_eq_true', decide_eq_false_iff_not] at h
  rcases h with h | h | h
  · have : (se.sc.names.lookup x == some NameKind.local) = false := beq_eq_false_iff_ne.mpr h
    rw [this]
    simp
  · rw [h]
    simp
  · rw [h]
    simp
theorem comp_none {e : Expr} {l : Nat} {env : Env} {t : Option Expr} (h : isComp e = false) : swapsWith e t l env = pure false := by
  cases e <;> first | rfl | cases h
theorem sole_comp {e tg : Expr} {l : Nat} {env : Env} (h : isComp e = false) : swapsWithSole [tg] e l env = pure false := comp_none h
theorem set_of {i : Nat} {e : Ex} {D : Ends} {σ : L2.St} {H : Hp} (h : stT C W c (.set i e) D σ H) : tAsg (evT C W c e) (gName i) D σ H := by
  obtain ⟨F, ρ, hs, hl, w⟩ := h
  rw [ex] at w
  exact ⟨F, ρ, hs, hl, (AftE.thn hl w).mono fun F1 H1 d v x1 s1 r1 q1 => AftE.set q1 s1 (hl.ext x1) r1⟩
theorem ps_setF (G : GS T C W c n se X) {i : Nat} {x : Str} {e : Ex} {y : Expr} {p pos : Pos} (hi : se.N[i]? = some x) (hx : locB se x = true) (hw : swB se x p y = true) (he : PE X y (evT C W c e)) : PS X (.Assign [.Name x p] y pos) (stT C W c (.set i e)) := by
  obtain ⟨l1, l2⟩ := locB_ok G.sx hx
  exact imp_s (ps_set (i := i) (by rw [G.N]; exact G.nd) (by rw [G.N]; exact hi) l1 he (swB_ok G.sc hw) l2) fun D σ H w => set_of w
/-- name = [..] on one line -/
def lcB (sc sc' : Scope) (x : Str) (p q : Pos) : Bool := decide (sc.names.lookup x = some .local) && ((p.line == q.line) && !(sc'.names.any fun (n, k) => n == x && (k == .local || k == .cell)))
theorem ps_setLcF (G : GS T C W c n se X) {j : Nat} {x : Str} {e : Ex} {y : Ex} {tg : List Nat} {tp : Bool} {s : Sr} {i : Ox} {own : List Nat} {y' tg' it : Expr} {ifs : List Expr} {sc : Scope} {p q pos : Pos} (hj : se.N[j]? = some x) (hsw : lcB se.sc sc x p q = true)
    (h : okE T se (.lc y tg tp s i own) (.ListComp y' [⟨tg', it, ifs, 0⟩] sc q) = true) (he : ∀ σ H Q, evT C W c e σ H Q → tLc (evwT C W c s) (gF tg tp) (evtT C WF c i) (evT C WF c y) own σ H Q) :
    PS X (.Assign [.Name x p] (.ListComp y' [⟨tg', it, ifs, 0⟩] sc q) pos) (stT C W c (.set j e)) := by
  unfold lcB at hsw
  simp only [Bool.and_eq_true, decide_eq_true_eq, Bool.not_eq_true'] at hsw
  obtain ⟨k1, k2, k3⟩ := hsw
  simp only [okE, asLc, Bool.and_eq_true, decide_eq_true_eq] at h
  obtain ⟨h0, h1, h2, h3, h4, h5, h6, h7⟩ := h
  have hi := okS_ok s G.toGX h1
  have bk := fun s H B cl fp => G.toGX.blk s H sc B cl fp
  have sw := sw_true (elt := y') (gs := [⟨tg', it, ifs, 0⟩]) (pos := q) (l := pos.line) (env := X.env) (by rw [G.sc]; exact G.kd) (by rw [G.sc]; exact k1) k2 k3
  have ps := ps_setLc (spos := pos) G.calm (by rw [G.N]; exact G.nd) (by rw [G.N]; exact hj) (by rw [G.sc]; exact k1) sw hi (own := ownS se.N own) (by rw [G.N, G.sc]; exact blkOk_by h5) (fun s H B cl fp => pg_F (bk s H B cl fp).sx h4) (fun s H B cl fp => okT_ok i (bk s H B cl fp) h2) (fun s H B cl fp => (okE_ok y (bk s H B cl fp) h3).v) (notSet_ok h0)
  rw [h6] at ps
  refine imp_s ps fun D σ H w => ?_
  have w' := set_of w
  exact he σ H _ w'
/-! ### names = e -/
def notTup : Expr → Bool
  | .Tuple _ _ _ => false
  | _ => true
theorem stores_none {ts : List Expr} {k : Nat} {p : Pos} {e : Expr} {env : Env} (h : notTup e = true) : swappedStores [.Tuple ts k p] e env = pure none := by
  cases e <;> first | rfl | cases h
theorem fm_lt {α β : Type} {f : α → Option β} : ∀ {l : List α}, (∃ x ∈ l, f x = none) → (l.filterMap f).length < l.length
  | [], ⟨_, h, _⟩ => nomatch h
  | y :: l, ⟨x, h, e⟩ => by
    rw [List.filterMap_cons]
    rcases List.mem_cons.mp h with rfl | h
    · rw [e]
      exact Nat.lt_succ_of_le (List.length_filterMap_le f l)
    · have ih := fm_lt (l := l) ⟨x, h, e⟩
      split
      · exact Nat.lt_succ_of_lt ih
      · exact Nat.succ_lt_succ ih
/-- a name among them that stands in a cell -/
def cellT (se : SE) (ts : List Expr) : Bool := ts.any fun t => match asName t with
  | some x => decide (se.sc.names.lookup x = some .cell)
  | none => false
def stoB (se : SE) (ts : List Expr) (e : Expr) : Bool := notTup e || cellT se ts
theorem stores_B {ts : List Expr} {k : Nat} {p : Pos} {e : Expr} {env : Env} (hs : env.scope = se.sc) (h : stoB se ts e = true) : swappedStores [.Tuple ts k p] e env = pure none := by
  cases e with
  | Tuple vs k2 p2 =>
    have h : cellT se ts = true := by simpa [stoB, notTup] using h
    obtain ⟨t, ht, hx⟩ := List.any_eq_true.mp h
    split at hx
    · rename_i x hm
      obtain ⟨q, rfl⟩ := asName_eq hm
      have hx := of_decide_eq_true hx
      have hk : env.kindOf x = some .cell := by show env.scope.names.lookup x = _; rw [hs]; exact hx
      unfold swappedStores
      dsimp only
      split
      · rfl
      · split
        · rfl
        · refine if_pos ?_
          rw [Bool.or_eq_true]
          left
          rw [bne_iff_ne]
          refine Nat.ne_of_lt (fm_lt ⟨_, ht, ?_⟩)
          simp [hk]
    · cases hx
  | _ => rfl
theorem unp_of {is : List Nat} {e : Ex} {D : Ends} {σ : L2.St} {H : Hp} (h : stT C W c (.unp is e) D σ H) : tAsg (evT C W c e) (gF is true) D σ H := by
  obtain ⟨F, ρ, hs, hl, w⟩ := h
  rw [ex] at w
  refine ⟨F, ρ, hs, hl, (AftE.thn hl w).mono fun F1 H1 d v x1 s1 r1 q1 => ?_⟩
  cases e1 : asgT is true d ρ with
  | none => rw [e1] at q1; exact q1.elim
  | some ρ1 =>
    rw [e1] at q1
    exact ⟨F1, ρ, d, ρ1, s1, hl.ext x1, r1, e1, fun σ1 l1 _ => q1.nx_now s1 l1⟩
theorem ps_unpF (G : GS T C W c n se X) {is : List Nat} {ts : List Expr} {k : Nat} {e : Ex} {y : Expr} {p pos : Pos} (h : okNames se is ts = true) (hc : isComp y = false) (ht : stoB se ts y = true) (he : PE X y (evT C W c e)) : PS X (.Assign [.Tuple ts k p] y pos) (stT C W c (.unp is e)) :=
  imp_s (ps_asg he (pg_F G.sx (tp := true) (by show (match asTup (.Tuple ts k p) with | some xs => okNames se is xs | none => false) = true; exact h)) (sole_comp hc) (stores_B G.sc ht)) fun D σ H w => unp_of w
/-- a, b = x, y -/
def idOf : Expr → Option (Str × Nat)
  | .Name x p => some (x, p.line)
  | _ => none
def parB (se : SE) (ts vs : List Expr) : Bool := (ts.length == 2 || ts.length == 3) && ((vs.length == ts.length) && ((vs.all fun v => !isStar v) && (!(vs.all (foldedForSure 8)) && !(vs.all (constantsAlone 8)))))
theorem stores2 {x y : Str} {px py : Pos} {a b : Expr} {kt k2 : Nat} {pt pt2 : Pos} {env : Env} (hs : env.scope = se.sc) (hk : se.sc.kind = .function) (hx : se.sc.names.lookup x = some .local) (hy : se.sc.names.lookup y = some .local) (hxy : x ≠ y) (hl : py.line = px.line)
    (sa : isStar a = false) (sb : isStar b = false) (f1 : ([a, b].all (foldedForSure 8)) = false) (f2 : ([a, b].all (constantsAlone 8)) = false) :
    swappedStores [.Tuple [.Name x px, .Name y py] kt pt] (.Tuple [a, b] k2 pt2) env = pure (some [x, y]) := by
  have hb : env.blockKind = .function := by unfold Env.blockKind; rw [hs, hk]; rfl
  have ex : env.kindOf x = some .local := by show env.scope.names.lookup x = _; rw [hs]; exact hx
  have ey : env.kindOf y = some .local := by show env.scope.names.lookup y = _; rw [hs]; exact hy
  have hyx : (y == x) = false := beq_eq_false_iff_ne.mpr (Ne.symm hxy)
  unfold swappedStores
  simp only [hb, f1, f2]
  simp [ex, ey, hl, List.eraseDups, List.eraseDupsBy, List.eraseDupsBy.loop, Expr.pos, hyx]
  intro h
  exfalso
  rcases h with h | h
  · cases a <;> first | (cases h; done) | cases sa
  · cases b <;> first | (cases h; done) | cases sb
theorem stores3 {x y z : Str} {px py pz : Pos} {a b d : Expr} {kt k2 : Nat} {pt pt2 : Pos} {env : Env} (hs : env.scope = se.sc) (hk : se.sc.kind = .function) (hx : se.sc.names.lookup x = some .local) (hy : se.sc.names.lookup y = some .local) (hz : se.sc.names.lookup z = some .local) (hxy : x ≠ y) (hxz : x ≠ z) (hyz : y ≠ z) (hl : py.line = px.line) (hl2 : pz.line = px.line)
    (sa : isStar a = false) (sb : isStar b = false) (sd : isStar d = false) (f1 : ([a, b, d].all (foldedForSure 8)) = false) (f2 : ([a, b, d].all (constantsAlone 8)) = false) :
    swappedStores [.Tuple [.Name x px, .Name y py, .Name z pz] kt pt] (.Tuple [a, b, d] k2 pt2) env = pure (some [x, y, z]) := by
  have hb : env.blockKind = .function := by unfold Env.blockKind; rw [hs, hk]; rfl
  have ex : env.kindOf x = some .local := by show env.scope.names.lookup x = _; rw [hs]; exact hx
  have ey : env.kindOf y = some .local := by show env.scope.names.lookup y = _; rw [hs]; exact hy
  have ez : env.kindOf z = some .local := by show env.scope.names.lookup z = _; rw [hs]; exact hz
  have hyx : (y == x) = false := beq_eq_false_iff_ne.mpr (Ne.symm hxy)
  have hzx : (z == x) = false := beq_eq_false_iff_ne.mpr (Ne.symm hxz)
  have hzy : (z == y) = false := beq_eq_false_iff_ne.mpr (Ne.symm hyz)
  unfold swappedStores
  simp only [hb, f1, f2]
  simp [ex, ey, ez, hl, hl2, List.eraseDups, List.eraseDupsBy, List.eraseDupsBy.loop, Expr.pos, hyx, hzx, hzy]
  intro h
  exfalso
  rcases h with h | h | h
  · cases a <;> first | (cases h; done) | cases sa
  · cases b <;> first | (cases h; done) | cases sb
  · cases d <;> first | (cases h; done) | cases sd
/-- names that stand in slots, plain locals on one line, none twice -/
def parNm (se : SE) (l : Nat) (i : Nat) (x : Expr) : Bool := match idOf x with
  | some (n, m) => decide (se.N[i]? = some n) && (decide (se.sc.names.lookup n = some .local) && decide (m = l))
  | none => false
def parL : List Expr → Nat
  | e :: _ => (match idOf e with
    | some (_, m) => m
    | none => 0)
  | [] => 0
def okPar (se : SE) (is : List Nat) (ts vs : List Expr) : Bool := match is, ts, vs with
  | [i, j], [x, y], [a, b] => (parNm se (parL [x]) i x && (parNm se (parL [x]) j y && (decide (i ≠ j) && (!isStar a && (!isStar b && (!([a, b].all (foldedForSure 8)) && !([a, b].all (constantsAlone 8))))))))
  | [i, j, k], [x, y, z], [a, b, d] => (parNm se (parL [x]) i x && (parNm se (parL [x]) j y && (parNm se (parL [x]) k z && (decide (i ≠ j) && (decide (i ≠ k) && (decide (j ≠ k) && (!isStar a && (!isStar b && (!isStar d && (!([a, b, d].all (foldedForSure 8)) && !([a, b, d].all (constantsAlone 8))))))))))))
  | _, _, _ => false
theorem parNm_ok {l i : Nat} {x : Expr} (h : parNm se l i x = true) : ∃ n p, x = .Name n p ∧ se.N[i]? = some n ∧ se.sc.names.lookup n = some .local ∧ p.line = l := by
  unfold parNm at h
  split at h
  · rename_i n m e
    cases x <;> first | (cases e; done) | skip
    cases e
    simp only [Bool.and_eq_true, decide_eq_true_eq] at h
    exact ⟨_, _, rfl, h.1, h.2.1, h.2.2⟩
  · cases h
theorem par_of {is : List Nat} {es : Exs} {D : Ends} {σ : L2.St} {H : Hp} (h : stT C W c (.par is es) D σ H) : evsT C W c es σ H fun vs H1 => vs.length = is.length ∧ D.nx (setAll σ is vs) H1 := by
  obtain ⟨F, ρ, hs, hl, w⟩ := h
  rw [ex] at w
  refine ⟨F, ρ, hs, hl, (AftE.thn hl w).mono fun F1 H1 ds vs x1 s1 r1 q1 => ?_⟩
  cases e : MP.asg1 is ds ρ with
  | none => rw [e] at q1; exact q1.elim
  | some ρ1 =>
    rw [e] at q1
    obtain ⟨k1, k2⟩ := (hl.ext x1).asg1 r1 e
    exact ⟨k1, q1.nx_now s1 k2⟩
theorem ps_parF (G : GS T C W c n se X) {is : List Nat} {ts vs : List Expr} {es : Exs} {kt k2 : Nat} {pt pt2 pos : Pos} (h : okPar se is ts vs = true) (ha : PA X vs (evsT C W c es)) : PS X (.Assign [.Tuple ts kt pt] (.Tuple vs k2 pt2) pos) (stT C W c (.par is es)) := by
  have inj : ∀ {i j : Nat} {x y : Str}, se.N[i]? = some x → se.N[j]? = some y → i ≠ j → x ≠ y := fun {i j x y} h1 h2 hn e => by
    subst e
    exact hn (nodup_ix G.nd h1 h2)
  have lk : ∀ {x : Str}, se.sc.names.lookup x = some .local → X.env.scope.names.lookup x = some .local := fun {x} h => by rw [G.sc]; exact h
  have hN : ∀ {i : Nat} {x : Str}, se.N[i]? = some x → X.N[i]? = some x := fun {i x} h => by rw [G.N]; exact h
  unfold okPar at h
  split at h
  · rename_i i j x y a b
    simp only [Bool.and_eq_true, Bool.not_eq_true', decide_eq_true_eq] at h
    obtain ⟨h1, h2, h3, h4, h5, h6, h7⟩ := h
    obtain ⟨xn, px, rfl, x1, x2, x3⟩ := parNm_ok h1
    obtain ⟨yn, py, rfl, y1, y2, y3⟩ := parNm_ok h2
    have y3 : py.line = px.line := y3
    refine imp_s (ps_par G.calm (by rw [G.N]; exact G.nd) (hN x1) (hN y1) h3 (lk x2) (lk y2) ha (stores2 G.sc G.kd x2 y2 (inj x1 y1 h3) y3 h4 h5 h6 h7)) fun D σ H w => ?_
    obtain ⟨F, ρ, hs, hl, w⟩ := par_of w
    refine ⟨F, ρ, hs, hl, w.mono fun F1 H1 ds vs _ _ _ ⟨q1, q2⟩ => ?_⟩
    rcases vs with _ | ⟨v, _ | ⟨w', _ | ⟨_, _⟩⟩⟩ <;> first | (cases q1; done) | skip
    exact ⟨v, w', rfl, q2⟩
  · rename_i i j k x y z a b d
    simp only [Bool.and_eq_true, Bool.not_eq_true', decide_eq_true_eq] at h
    obtain ⟨h1, h2, h2', h3, h3', h3'', h4, h5, h5', h6, h7⟩ := h
    obtain ⟨xn, px, rfl, x1, x2, x3⟩ := parNm_ok h1
    obtain ⟨yn, py, rfl, y1, y2, y3⟩ := parNm_ok h2
    obtain ⟨zn, pz, rfl, z1, z2, z3⟩ := parNm_ok h2'
    have y3 : py.line = px.line := y3
    have z3 : pz.line = px.line := z3
    refine imp_s (ps_par3 G.calm (by rw [G.N]; exact G.nd) (hN x1) (hN y1) (hN z1) h3 h3' h3'' (lk x2) (lk y2) (lk z2) ha (stores3 G.sc G.kd x2 y2 z2 (inj x1 y1 h3) (inj x1 z1 h3') (inj y1 z1 h3'') y3 z3 h4 h5 h5' h6 h7)) fun D σ H w => ?_
    obtain ⟨F, ρ, hs, hl, w⟩ := par_of w
    refine ⟨F, ρ, hs, hl, w.mono fun F1 H1 ds vs _ _ _ ⟨q1, q2⟩ => ?_⟩
    rcases vs with _ | ⟨v, _ | ⟨w', _ | ⟨u, _ | ⟨_, _⟩⟩⟩⟩ <;> first | (cases q1; done) | skip
    exact ⟨v, w', u, rfl, q2⟩
  · cases h
/-! ### a[i] = e, a[i] op= e, name op= e -/
theorem sti_write {F : Fr} {H : Hp} {x y z : D} {st' : Store} (s : Sto F H) (h : stiD F.st x y z = some st') {vx vy vz : V} (rx : Rep F H x vx) (ry : Rep F H y vy) (rz : Rep F H z vz) :
    ∃ F' vs p k j, vx = .ref p ∧ vy = .int k ∧ H p = some (.lst vs) ∧ ixN vs.length k = some j ∧ F'.st = st' ∧ Ext F H F' (upd H p (.lst (vs.set j vz))) ∧ Sto F' (upd H p (.lst (vs.set j vz))) := by
  unfold stiD at h
  split at h
  · rename_i k j
    split at h
    · rename_i ds hk
      cases hj : L2.ixN ds.length j with
      | none => rw [hj] at h; cases h
      | some m =>
        rw [hj] at h
        cases h
        obtain ⟨vs, ev, ha, rv⟩ := cel_at s rx hk
        obtain ⟨x1, s1⟩ := cell_write s hk (fun z => nomatch z) (rv.set m rz)
        exact ⟨_, vs, F.al k, j, m, ev, ry, ha, by rw [← rv.length]; exact hj, rfl, x1, s1⟩
    · cases h
  · cases h
theorem subst_stores {a i e : Expr} {p : Pos} {env : Env} : swappedStores [.Subscript a i p] e env = pure none := by
  cases e <;> rfl
theorem ps_stiF (G : GS T C W c n se X) {a i e : Ex} {a' i' e' : Expr} {p pos : Pos} (hi' : isSlice i' = false) (hc : isComp e' = false) (ha : PE X a' (evT C W c a)) (hi : PE X i' (evT C W c i)) (he : PE X e' (evT C W c e)) : PS X (.Assign [.Subscript a' i' p] e' pos) (stT C W c (.sti a i e)) := by
  refine imp_s (ps_asg he (pg_sub ha hi set_list (by intros; cases i' <;> first | rfl | cases hi')) (sole_comp hc) subst_stores) fun D σ H ⟨F, ρ, hs, hl, w⟩ => ?_
  rw [ex] at w
  refine ⟨F, ρ, hs, hl, (AftE.thn hl w).mono fun F1 H1 d v x1 s1 r1 q1 => ?_⟩
  refine ⟨F1, ρ, s1, hl.ext x1, (AftE.thn (hl.ext x1) q1).mono fun F2 H2 xo vo x2 s2 r2 q2 => ?_⟩
  refine ⟨F2, ρ, s2, (hl.ext x1).ext x2, (AftE.thn ((hl.ext x1).ext x2) q2).mono fun F3 H3 xi vi x3 s3 r3 q3 => ?_⟩
  cases e1 : stiD F3.st xo xi d with
  | none => rw [e1] at q3; exact q3.elim
  | some st' =>
    rw [e1] at q3
    obtain ⟨F', vs, p, k, j, h1, h2, h3, h4, h5, h6, h7⟩ := sti_write s3 e1 (r2.ext x3) r3 ((r1.ext x2).ext x3)
    exact ⟨p, vs, k, j, h1, h2, h3, h4, q3 F' _ σ h5 h6 h7 ((((hl.ext x1).ext x2).ext x3).ext h6)⟩
def okIo : Bo → Operator → Bool
  | .add, .Add => true
  | .sub, .Sub => true
  | .mul, .Mult => true
  | .fdv, .FloorDiv => true
  | .mod, .Mod => true
  | _, _ => false
theorem ip_I {op : Bo} {o : Operator} (h : okIo op o = true) : PIp X o (rBinI op) := by
  intro pins s σ H x y v u Q I rx ry ⟨i, j, d, ex, ey, e, q⟩
  cases op <;> cases o <;> first | cases h | skip
  · cases e
    exact iop_add pins s σ H x y v u Q I rx ry ⟨i, j, ex, ey, q _ fun _ _ => rfl⟩
  · cases e
    exact iop_sub pins s σ H x y v u Q I rx ry ⟨i, j, ex, ey, q _ fun _ _ => rfl⟩
  · unfold binI at e
    simp only at e
    split at e
    · cases e
      exact iop_mul pins s σ H x y v u Q I rx ry ⟨i, j, ex, ey, okMul_ok (by assumption), q _ fun _ _ => rfl⟩
    · cases e
  · unfold binI at e
    simp only at e
    split at e
    · rename_i hc
      cases e
      simp only [Bool.and_eq_true, decide_eq_true_eq] at hc
      exact iop_fdiv pins s σ H x y v u Q I rx ry ⟨i, j, ex, ey, hc, q _ fun _ _ => rfl⟩
    · cases e
  · unfold binI at e
    simp only at e
    split at e
    · cases e
      exact iop_mod pins s σ H x y v u Q I rx ry ⟨i, j, ex, ey, by assumption, q _ fun _ _ => rfl⟩
    · cases e
theorem binI_int {op : Bo} {i j : Int} {z : D} (h : binI op i j = some z) : ∃ k, z = .int k := by
  unfold binI at h
  cases op <;> simp only at h
  · cases h; exact ⟨_, rfl⟩
  · cases h; exact ⟨_, rfl⟩
  · split at h
    · cases h; exact ⟨_, rfl⟩
    · cases h
  · split at h
    · cases h; exact ⟨_, rfl⟩
    · cases h
  · split at h
    · cases h; exact ⟨_, rfl⟩
    · cases h
  · split at h
    · cases h; exact ⟨_, rfl⟩
    · cases h
theorem ps_augF (G : GS T C W c n se X) {i : Nat} {x : Str} {op : Bo} {o : Operator} {e : Ex} {y : Expr} {p pos : Pos} (hi : se.N[i]? = some x) (hx : locB se x = true) (ho : okIo op o = true) (he : PE X y (evT C W c e)) : PS X (.AugAssign (.Name x p) o y pos) (stT C W c (.aug i op e)) := by
  obtain ⟨l1, l2⟩ := locB_ok G.sx hx
  refine imp_s (ps_aug (i := i) (by rw [G.N]; exact G.nd) (by rw [G.N]; exact hi) l1 he (ip_I ho) l2) fun D σ H ⟨F, ρ, hs, hl, w⟩ => ?_
  rw [ex] at w
  split at w
  · rename_i a hρ
    obtain ⟨v, hv, rv⟩ := hl.2 i _ hρ
    refine ⟨v, hv, F, ρ, hs, hl, (AftE.thn hl w).mono fun F1 H1 d u x1 s1 r1 q1 => ?_⟩
    cases d with
    | int b =>
      cases hz : binI op a b with
      | none => 
        have q1 : AftE C W F1 H1 (match binI op a b with
          | some z => ofS (set1 i z ρ) F1.st
          | none => .bad) D := q1
        rw [hz] at q1; exact q1.elim
      | some z =>
        have q1 : AftE C W F1 H1 (match binI op a b with
          | some z => ofS (set1 i z ρ) F1.st
          | none => .bad) D := q1
        rw [hz] at q1
        exact ⟨a, b, z, rv, r1, hz, fun v rz => AftE.set q1 s1 (hl.ext x1) (rz F1 H1)⟩
    | _ => exact q1.elim
  · exact w.elim
/-- a[i], by values, i from the left -/
theorem get_cell : PGet X (fun x y H Q => ∃ a vs i v, x = .ref a ∧ y = .int i ∧ H a = some (.lst vs) ∧ 0 ≤ i ∧ i < 2 ^ 62 ∧ vs[i.toNat]? = some v ∧ Q v H) := by
  intro pins s σ H o i ov iv Q I ro ri ⟨a, vs, k, v, e1, e2, ha, h0, h1, hv, q⟩
  subst e1 e2
  cases ro
  obtain ⟨t, rfl⟩ := ri
  obtain ⟨its, r, pl, hz⟩ := I.list (SqL.of ha)
  obtain ⟨w, hw, rw'⟩ := r.get hv
  exact wpAny_getItem_list pl.isList h0 (by omega) (by simpa using hw) ⟨v, H, I, rw', q⟩
theorem ps_agiF (G : GS T C W c n se X) {op : Bo} {o : Operator} {a i e : Ex} {a' i' e' : Expr} {p pos : Pos} (hi' : isSlice i' = false) (ho : okIo op o = true) (ha : PE X a' (evT C W c a)) (hi : PE X i' (evT C W c i)) (he : PE X e' (evT C W c e)) :
    PS X (.AugAssign (.Subscript a' i' p) o e' pos) (stT C W c (.agi a i op e)) := by
  refine imp_s (ps_augS ha hi get_cell he (ip_I ho) set_list (by intros; cases i' <;> first | rfl | cases hi')) fun D σ H ⟨F, ρ, hs, hl, w⟩ => ?_
  rw [ex] at w
  refine ⟨F, ρ, hs, hl, (AftE.thn hl w).mono fun F1 H1 xo vo x1 s1 r1 q1 => ?_⟩
  refine ⟨F1, ρ, s1, hl.ext x1, (AftE.thn (hl.ext x1) q1).mono fun F2 H2 xi vi x2 s2 r2 q2 => ?_⟩
  cases hg : MP.getD F2.st xo xi with
  | none => rw [hg] at q2; exact q2.elim
  | some d =>
    rw [hg] at q2
    cases d with
    | int m =>
      cases xo with
      | cel k =>
        cases xi with
        | int j =>
          have hg : (if 0 ≤ j then (match F2.st[k]? with
            | some (.lst ds) => if ds.length ≤ line then ds[j.toNat]? else none
            | _ => none) else none) = some (MP.D.int m) := hg
          split at hg
          · rename_i h0
            split at hg
            · rename_i ds hk
              split at hg
              · rename_i hlen
                obtain ⟨vs, ev, hat, rv⟩ := cel_at s2 (r1.ext x2) hk
                obtain ⟨u, hu, ru⟩ := rv.get hg
                have hlt := (List.getElem?_eq_some_iff.mp hg).1
                have hlen : ds.length ≤ 16777216 := hlen
                refine ⟨_, vs, j, u, ev, r2, hat, h0, by omega, hu, ?_⟩
                refine ⟨F2, ρ, s2, (hl.ext x1).ext x2, (AftE.thn ((hl.ext x1).ext x2) q2).mono fun F3 H3 xq vq x3 s3 r3 q3 => ?_⟩
                cases xq with
                | int b =>
                  have q3 : AftE C W F3 H3 (match binI op m b with
                    | some z => (match stiD F3.st (.cel k) (.int j) z with
                      | some st => .nx ρ st
                      | none => .bad)
                    | none => .bad) D := q3
                  cases hz : binI op m b with
                  | none => rw [hz] at q3; exact q3.elim
                  | some z =>
                    rw [hz] at q3
                    refine ⟨m, b, z, ru, r3, hz, fun vz rz => ?_⟩
                    have q3 : AftE C W F3 H3 (match stiD F3.st (.cel k) (.int j) z with
                      | some st => .nx ρ st
                      | none => .bad) D := q3
                    cases hst : stiD F3.st (.cel k) (.int j) z with
                    | none => rw [hst] at q3; exact q3.elim
                    | some st' =>
                      rw [hst] at q3
                      obtain ⟨F', vs', p, k', j', h1, h2, h3, h4, h5, h6, h7⟩ := sti_write s3 hst (((r1.ext x2).ext x3)) (r2.ext x3) (rz F3 H3)
                      exact ⟨p, vs', k', j', h1, h2, h3, h4, q3 F' _ σ h5 h6 h7 ((((hl.ext x1).ext x2).ext x3).ext h6)⟩
                | _ => exact q3.elim
              · cases hg
            · cases hg
          · cases hg
        | _ => cases hg
      | _ => cases hg
    | _ => exact q2.elim
end
end MP
end
section
set_option maxRecDepth 100000
set_option maxHeartbeats 4000000
/-! MPSnd21: control. -/
namespace MP
open PySem L2
variable [Glo]
section
variable {T : Tab} {C : Nat → Addr} {W : WX} {c : Cxt} {n : Nat} {se : SE} {X : Cx}
theorem ps_expF (G : GS T C W c n se X) {e : Ex} {y : Expr} {pos : Pos} (hc : isComp y = false) (he : PE X y (evT C W c e)) : PS X (.Expr y pos) (stT C W c (.exp e)) := by
  refine imp_s (ps_expr he (comp_none hc)) fun D σ H ⟨F, ρ, hs, hl, w⟩ => ?_
  rw [ex] at w
  exact ⟨F, ρ, hs, hl, (AftE.thn hl w).mono fun F1 H1 d v x1 s1 r1 q1 => q1.nx_now s1 (hl.ext x1)⟩
theorem ps_retF {e : Ex} {y : Expr} {pos : Pos} (he : PE X y (evT C W c e)) : PS X (.Return (some y) pos) (stT C W c (.ret e)) := by
  refine imp_s (ps_ret he) fun D σ H ⟨F, ρ, hs, hl, w⟩ => ?_
  rw [ex] at w
  exact ⟨F, ρ, hs, hl, (AftE.thn hl w).mono fun F1 H1 d v x1 s1 r1 q1 => q1 F1 H1 v rfl (Ext.refl F1 H1) s1 r1⟩
theorem ps_retN0 {pos : Pos} : PS X (.Return none pos) (stT C W c (.ret (.kn .non))) := by
  refine imp_s ps_retN fun D σ H ⟨F, ρ, hs, hl, w⟩ => ?_
  rw [ex, ev] at w
  exact w F H .non rfl (Ext.refl F H) hs rfl
theorem ps_ifF {t : Ex} {a b : Sms} {t' : Expr} {a' b' : List Stmt} {pos : Pos} (ht : PT X t' (evTT C W c t)) (ha : PSs X a' (stsT C W c a)) (hb : PSs X b' (stsT C W c b)) : PS X (.If t' a' b' pos) (stT C W c (.ife t a b)) := by
  refine imp_s (ps_if ht ha hb) fun D σ H ⟨F, ρ, hs, hl, w⟩ => ?_
  rw [ex] at w
  have w' : AftE C W F H (((ev c t ρ F.st).bind fun d st => ofO (tb d) st).thn ρ fun k st => if k = true then exs c a ρ st else exs c b ρ st) D := by
    cases hr : ev c t ρ F.st with
    | ok d st =>
      rw [hr] at w
      cases d with
      | bl k => cases k <;> exact w
      | _ => exact w.elim
    | exc k d st => rw [hr] at w; exact w
    | bad => rw [hr] at w; exact w
  refine ⟨F, ρ, hs, hl, ((AftE.thn (Rel := Eqr) hl w').eq_mono fun F1 H1 k x1 s1 q1 => ?_)⟩
  cases k with
  | true => exact ⟨F1, ρ, s1, hl.ext x1, q1⟩
  | false => exact ⟨F1, ρ, s1, hl.ext x1, q1⟩
theorem pss_nilF : PSs X [] (stsT C W c .nil) := by
  refine imp_ss pss_nil fun D σ H ⟨F, ρ, hs, hl, w⟩ => ?_
  rw [exs] at w
  exact w.nx_now hs hl
theorem pss_consF {s : Sm} {ss : Sms} {x : Stmt} {xs : List Stmt} (h1 : PS X x (stT C W c s)) (h2 : PSs X xs (stsT C W c ss)) : PSs X (x :: xs) (stsT C W c (.cons s ss)) := by
  refine imp_ss (pss_cons h1 h2) fun D σ H ⟨F, ρ, hs, hl, w⟩ => ?_
  rw [exs] at w
  refine ⟨F, ρ, hs, hl, ?_⟩
  cases hr : ex c s ρ F.st with
  | nx ρ1 st =>
    rw [hr] at w
    intro F' H' σ' e x s' l'
    subst e
    exact ⟨F', ρ1, s', l', AftE.later x w⟩
  | bk ρ1 st => rw [hr] at w; exact w
  | ct ρ1 st => rw [hr] at w; exact w
  | rt d st => rw [hr] at w; exact w
  | exc k d ρ1 st => rw [hr] at w; exact w
  | bad => rw [hr] at w; exact w
/-- one turn of a loop -/
def forF (c : Cxt) (tg : List Nat) (tp : Bool) (b : Sms) (d : D) (ρ : Sl) (st : Store) : E := match asgT tg tp d ρ with
    | some ρ => exs c b ρ st
    | none => .bad
theorem ps_forF (G : GS T C W c n se X) {tg : List Nat} {tp : Bool} {s : Sr} {b : Sms} {tg' it : Expr} {b' : List Stmt} {pos : Pos} (hg : okG se tg tp tg' = true) (hn : notSet it = true) (hi : PI X tg' it (evwT C W c s)) (hb : PSs X b' (stsT C W c b)) :
    PS X (.For tg' it b' [] pos) (stT C W c (.for_ tg tp s b)) := by
  refine imp_s (ps_for G.own G.calm hi (pg_F G.sx hg) hb (notSet_ok hn)) fun D σ H ⟨F, ρ, hs, hl, w⟩ => ?_
  rw [ex] at w
  refine ⟨F, ρ, hs, hl, (AftE.thn hl w).mono fun F1 H1 wk J x1 s1 r1 q1 => ?_⟩
  have q1 : AftE C W F1 H1 (forGo wk (forF c tg tp b) wk.its ρ F1.st) D := q1
  refine ⟨fun i m σ H => m = wk.its.length - i ∧ i ≤ wk.its.length ∧ ∃ F ρ, Ext F1 H1 F H ∧ Sto F H ∧ Slo F H ρ σ ∧ AftE C W F H (forGo wk (forF c tg tp b) (wk.its.drop i) ρ F.st) D, ⟨_, rfl, Nat.zero_le _, F1, ρ, Ext.refl F1 H1, s1, hl.ext x1, q1⟩, ?_⟩
  rintro i m σ H ⟨rfl, hn, F, ρ, xe, sF, lF, q⟩
  by_cases hlt : i < wk.its.length
  · rw [List.drop_eq_getElem_cons hlt] at q
    unfold forGo at q
    split at q
    · rename_i st1
      obtain ⟨wr, _⟩ := r1 F H xe sF st1
      obtain ⟨jg, jy⟩ := wr i wk.its[i] (List.getElem?_eq_getElem hlt)
      refine .inr ⟨jg, fun σ H => ∃ F ρ, Ext F1 H1 F H ∧ Sto F H ∧ Slo F H ρ σ ∧ AftE C W F H (forGo wk (forF c tg tp b) (wk.its.drop (i + 1)) ρ F.st) D, fun σ' H' p' => ⟨_, by omega, rfl, hlt, p'⟩, fun v H' y => ?_⟩
      obtain ⟨x2, s2, rd⟩ := jy v H' y
      cases ea : asgT tg tp wk.its[i] ρ with
      | none =>
        have e : forF c tg tp b wk.its[i] ρ F.st = .bad := by unfold forF; rw [ea]
        rw [e] at q
        exact q.elim
      | some ρ1 =>
        have e : forF c tg tp b wk.its[i] ρ F.st = exs c b ρ1 F.st := by unfold forF; rw [ea]
        rw [e] at q
        refine ⟨F, ρ, _, ρ1, s2, lF.ext x2, rd, ea, fun σ1 l1 _ => ⟨F, ρ1, s2, l1, ?_⟩⟩
        cases hr : exs c b ρ1 F.st with
        | nx ρ2 st2 =>
          rw [hr] at q
          intro F' H'' σ' e x s' l'
          subst e
          exact ⟨F', ρ2, (xe.trans x2).trans x, s', l', AftE.later (x2.trans x) q⟩
        | ct ρ2 st2 =>
          rw [hr] at q
          intro F' H'' σ' e x s' l'
          subst e
          exact ⟨F', ρ2, (xe.trans x2).trans x, s', l', AftE.later (x2.trans x) q⟩
        | bk ρ2 st2 =>
          rw [hr] at q
          exact AftE.later x2 q
        | rt d st2 =>
          rw [hr] at q
          exact AftE.later x2 q
        | exc k d ρ2 st2 =>
          rw [hr] at q
          exact AftE.later x2 q
        | bad => rw [hr] at q; exact q.elim
    · exact q.elim
  · have e : i = wk.its.length := by omega
    subst e
    rw [List.drop_length] at q
    unfold forGo at q
    split at q
    · rename_i st1
      obtain ⟨_, js⟩ := r1 F H xe sF st1
      exact .inl ⟨js, q.nx_now sF lF⟩
    · exact q.elim
theorem ps_whlF (G : GS T C W c n se X) {t : Ex} {b : Sms} {t' : Expr} {b' : List Stmt} {pos : Pos} (ht : PT X t' (evTT C W c t)) (hb : PSs X b' (stsT C W c b)) : PS X (.While t' b' [] pos) (stT C W c (.whl t b)) := by
  refine imp_s (ps_while G.own ht hb) fun D σ H ⟨F, ρ, hs, hl, w⟩ => ?_
  rw [ex] at w
  refine ⟨fun m σ H => ∃ F ρ, Sto F H ∧ Slo F H ρ σ ∧ AftE C W F H (whlGo (fun ρ st => (ev c t ρ st).bind fun x st => ofO (tb x) st) (exs c b) m ρ F.st) D, ⟨c.whl, F, ρ, hs, hl, w⟩, ?_⟩
  rintro m σ H ⟨F, ρ, hs, hl, q⟩
  cases m with
  | zero => exact q.elim
  | succ m =>
    unfold whlGo at q
    refine ⟨F, ρ, hs, hl, ((AftE.thn (Rel := Eqr) hl q).eq_mono fun F1 H1 k x1 s1 q1 => ?_)⟩
    cases k with
    | false => exact q1.nx_now s1 (hl.ext x1)
    | true =>
      rw [if_pos rfl] at q1 ⊢
      refine ⟨fun σ H => ∃ F ρ, Sto F H ∧ Slo F H ρ σ ∧ AftE C W F H (whlGo (fun ρ st => (ev c t ρ st).bind fun x st => ofO (tb x) st) (exs c b) m ρ F.st) D, fun σ' H' p => ⟨m, Nat.lt_succ_self _, p⟩, F1, ρ, s1, hl.ext x1, ?_⟩
      cases hr : exs c b ρ F1.st with
      | nx ρ2 st2 =>
        rw [hr] at q1
        intro F' H'' σ' e x s' l'
        subst e
        exact ⟨F', ρ2, s', l', AftE.later x q1⟩
      | ct ρ2 st2 =>
        rw [hr] at q1
        intro F' H'' σ' e x s' l'
        subst e
        exact ⟨F', ρ2, s', l', AftE.later x q1⟩
      | bk ρ2 st2 => rw [hr] at q1; exact q1
      | rt d st2 => rw [hr] at q1; exact q1
      | exc k d ρ2 st2 => rw [hr] at q1; exact q1
      | bad => rw [hr] at q1; exact q1.elim
theorem ps_raiF (G : GS T C W c n se X) {k : Nat} {e : Ex} {x : Str} {y : Expr} {p q pos : Pos} (hx : T.exc[k]? = some x) (g1 : gloB se.sc x = true) (g2 : okNm x = true) (he : PE X y (evT C W c e)) (hsy : isStar y = false) : PS X (.Raise (some (.Call (.Name x p) [y] [] q)) none pos) (stT C W c (.rai k e)) := by
  refine imp_s (ps_raise G.calm G.tk (G.mkx k x hx g1 g2 he hsy)) fun D σ H ⟨F, ρ, hs, hl, w⟩ => ?_
  rw [ex] at w
  refine ⟨F, ρ, hs, hl, (AftE.thn hl w).mono fun F1 H1 d v x1 s1 r1 q1 dx hdx => ?_⟩
  have xf := Ext.fresh F1 (.xd [(("value" : Str), v)]) hdx
  have := q1 F1 _ σ dx v rfl xf (s1.fresh _ hdx) ((hl.ext x1).ext xf) upd_same (s1.nun hdx) hdx (r1.ext xf)
  rw [(G.exc k x hx).2.1] at this
  exact this
theorem ps_brkF {pos : Pos} : PS X (.Break pos) (stT C W c .brk) := by
  refine imp_s ps_break fun D σ H ⟨F, ρ, hs, hl, w⟩ => ?_
  rw [ex] at w
  exact w F H σ rfl (Ext.refl F H) hs hl
theorem ps_cntF {pos : Pos} : PS X (.Continue pos) (stT C W c .cnt) := by
  refine imp_s ps_continue fun D σ H ⟨F, ρ, hs, hl, w⟩ => ?_
  rw [ex] at w
  exact w F H σ rfl (Ext.refl F H) hs hl
theorem ps_pasF {pos : Pos} : PS X (.Pass pos) (stT C W c .pas) := by
  refine imp_s ps_pass fun D σ H ⟨F, ρ, hs, hl, w⟩ => ?_
  rw [ex] at w
  exact w.nx_now hs hl
theorem ps_docF {x : Str} {j : Nat} {pos pos' : Pos} : PS X (.Expr (.Constant (.str x) j pos) pos') (stT C W c .pas) := by
  refine imp_s ps_doc fun D σ H ⟨F, ρ, hs, hl, w⟩ => ?_
  rw [ex] at w
  exact w.nx_now hs hl
end
end MP
end
section
set_option maxRecDepth 100000
set_option maxHeartbeats 4000000
/-! MPTry: try: .. except C as e: y = e. -/
namespace MP
open PySem L2 PySem.Spec PyProof.Rows
variable [Glo]
section
variable {X : Cx} {pins : List (Addr × Obj)} {σ : L2.St} {H : Hp} {sI s' : Shared} {B : Heap}
/-- caught: the state with the exception's objects, the exception known from now on -/
theorem caught_inv {a c0 dx : Addr} {o : Obj} {vs : Array Value} (I : L2.Inv X pins σ H sI) (nb : ∀ b o, sI.heap.get? b = some o → b ∉ frs X.stack → B.get? b = some o) (st : B.StaysIn s'.heap) (up : sI.heap.UpToSlots s'.heap) (os : s'.os = sI.os) (ag : AllBare s'.gens)
    (hB : B.get? a = none) (hf : a ∉ frs X.stack) (na : H a = none) (ho : s'.heap.get? a = some o) (hz : Zc (.ref c0) (some dx) o) (hd : o.data = .fields vs) : L2.Inv X pins σ (upd H a (ExAt c0 dx a)) s' := by
  have fresh : ∀ {b : Addr} {u : Obj}, sI.heap.get? b = some u → b ≠ a := fun {b u} e z => by
    subst z
    have q := nb _ _ e hf
    rw [hB] at q
    cases q
  have slots : ∀ b ∈ frs X.stack, ∀ u, sI.heap.get? b = some u → ∃ sl, s'.heap.get? b = some { u with slots := sl } := fun b hb u e => by
    obtain ⟨_, u', e', hnd⟩ := I.stack.mem hb
    rw [e] at e'
    cases e'
    exact up b u e hnd
  have hok : HOk X.prog X.w (upd H a (ExAt c0 dx a)) s'.heap := HOk.laidN ((I.inGround nb).kept st) (fun _ _ q => q) na ⟨⟨o, vs, ho, hz.1, hz.2, hd⟩, ⟨o, ho⟩, fun _ _ ⟨o, v, q, r⟩ k => ⟨o, v, k o q, r⟩⟩
  have J := I.call (ch := []) (h' := s'.heap) (g' := s'.gens) (t' := s'.toks) (d' := s'.drawn) (H' := upd H a (ExAt c0 dx a))
    { keep := fun b u e _ hb _ => st b u (nb b u e hb)
      slot := fun b u e _ hb _ => slots b hb u e
      free := fun b u e q _ => by rw [upd_ne (fresh e)]; exact q
      there := fun b u e _ => by
        by_cases hb : b ∈ frs X.stack
        · obtain ⟨sl, q⟩ := slots b hb u e
          exact ⟨_, q⟩
        · exact ⟨u, st b u (nb b u e hb)⟩
      tups := fun b xs e => by rw [upd_ne (ne_of_none e na)]; exact e
      frzs := fun b u w e => by rw [upd_ne (ne_of_none e na)]; exact e
      tbls := fun b ps e => ⟨#[], by rw [upd_ne (ne_of_none e na), e]; simp⟩ } hok ag (fun _ z => nomatch z)
  obtain ⟨a1, a2, a3, a4, a5⟩ := s'
  have e5 : a5 = sI.os := os
  subst e5
  exact J
end
/-- what is wished of an exception of the body: caught and kept in slot j, or let through -/
def wKeep (K : PySem.W.Frag) (cl : Value) (i j : Nat) (W : WX) (D : Ends) : WX := fun v d σ H =>
  ∃ b, PySem.W.exmOne K v cl = some b ∧ (b = true → ∃ c0 dx, v = .ref c0 ∧ d = some dx ∧ ∀ a, H a = none → D.nx (((σ.set i (some (.ref a))).set j (some (.ref a))).set i none) (upd H a (ExAt c0 dx a))) ∧ (b = false → W v d σ H)
section
variable {X : Cx} {x m y : Str} {cl : Value} {i j : Nat} {body : List Stmt} {np py pm p2 pos pos' : Pos} {tb : WX → TS} {W : WX}
theorem ps_tryKeep (hs : X.stack = X.env :: X.outer) (hf : X.env.frame = some X.env.locals) (hN : X.N.Nodup) (hi : X.N[i]? = some m) (hlm : X.env.kindOf m = some .local) (hj : X.N[j]? = some y) (hly : Loc X.env.scope y) (hly2 : X.fn y = true ∨ X.env.scope.names.lookup y = some .local) (hij : i < X.N.length) (hm1 : (m == ("__debug__" : Str)) = false) (hm2 : (m == ("__classdict__" : Str)) = false)
    (hc : Names X x cl) (tk : Takes X W) (hb : ∀ (W' : WX) (pn : List (Addr × Obj)) (xe : Value → Shared → Prop), Takes (X.tr pn xe) W' → PassesOwn (model X.prog X.w) X.A X.env xe → PSs (X.tr pn xe) body (tb W')) :
    PS X (.Try body [.ExceptHandler (some (.Name x np)) (some m) [.Assign [.Name y py] (.Name m pm) p2] pos'] [] [] pos) (fun D σ H => tb (wKeep X.K cl i j W D) D σ H) := by
  refine ⟨fun pins s σ H D I h => ?_⟩
  have okX := I.ok
  have frA : X.A.frames = some (X.env :: X.outer) := by rw [okX.frames, hs]
  refine wpAny_Try_except (wpAny_mono ((hb (wKeep X.K cl i j W D) (X.pn ++ pins) (fun e s1 => wpAny (model X.prog X.w) X.A (noteFrame e X.env) (fun _ s2 => wpAny (model X.prog X.w) X.A (setFlight e none) (fun _ s3 =>
    wpAny (model X.prog X.w) X.A (handleBy e X.env [.ExceptHandler (some (.Name x np)) (some m) [.Assign [.Name y py] (.Name m pm) p2] pos']) (SP X pins D) X.xe s3) X.xe s2) X.xe s1) (fun u st xx => ?_) PassesOwn.looking).run [] s σ H D (I.toTry _) h) (fun fl s1 sp => ?_) fun _ _ he => he)
  · obtain ⟨a, B, sI, pins1, σ1, H1, cls, d, rfl, JT, nb, up, sky, na, os, ag, b, hb1, hyes, hno⟩ := xx
    have J : L2.Inv X pins σ1 H1 sI := JT.ofTry okX
    rw [show (X.tr (X.pn ++ pins) _).stack = X.env :: X.outer from hs] at sky
    show wpAny (model X.prog X.w) X.A (noteFrame (.ref a) X.env) _ _ _
    refine Sky.land Zc.steady frA hf sky fun h3 fl3 up3 => ?_
    obtain ⟨o3, v3, ho3, hz3, hd3⟩ := fl3.there
    have nfr : a ∉ frs (X.env :: X.outer) := fun hm => by
      obtain ⟨_, o', e', hnf⟩ := fl3.2.2.1.mem hm
      rw [ho3] at e'
      cases e'
      exact hnf _ hd3
    have nfs : a ∉ frs X.stack := by rw [hs]; exact nfr
    have J3 : L2.Inv X pins σ1 H1 { st with heap := h3 } := J.landed nb fl3.1 (up.trans up3) os ag
    refine wpAny_handleBy_cons (codeAny_handlers_test ?_) (by intro q; cases q)
    have LT : PySem.W.Looks (model X.prog X.w) h3 (typeOf (.ref a)) cls := fun A Q E s k q => wpAny_typeOf_ref (k _ _ ho3) (by rw [hz3.1]; exact q)
    have LM := PySem.W.exm_one (M := model X.prog X.w) J3.kIn LT hb1
    -- the clause's class, looked up
    have test : ∀ {Q : Value → Shared → Prop} {E : Value → Shared → Prop}, Q cl { st with heap := h3 } → wpAny (model X.prog X.w) (X.A.mark (some (.ref a))) (eval (.Name x np) X.env) Q E { st with heap := h3 } := fun {Q E} q => by
      have kX := J3.ok
      obtain ⟨hg, hdb, hm | ⟨hm, hv, hnn⟩⟩ := hc
      · exact Calls.Name_function_global kX.kind hg (Calls.loadGlobal_global (by rw [kX.glob]; exact J3.mod.glob.keeps J3.bk) hm q) hdb
      · obtain ⟨mb, b1, b2⟩ := J3.mod.blt
        exact Calls.Name_function_global kX.kind hg (Calls.loadGlobal_builtin (by rw [kX.glob]; exact J3.mod.glob.keeps J3.bk) hm (by rw [kX.blt]; exact b1.keeps J3.bk) ((b2 x hnn).trans hv) q) hdb
    refine test (LM.here ?_)
    cases b with
    | true =>
      obtain ⟨c0, dx, ec, ed, hq⟩ := hyes rfl
      subst ec ed
      refine codeAny_handlers_suite_as ?_
      refine HandSPX.lands_againZ fl3 fun h4 fl4 up4 => ?_
      obtain ⟨o4, v4, ho4, hz4, hd4⟩ := fl4.there
      have K4 : L2.Inv X pins σ1 (upd H1 a (ExAt c0 dx a)) { st with heap := h4 } := caught_inv (s' := { st with heap := h4 }) J nb fl4.1 ((up.trans up3).trans up4) os ag fl4.2.1 nfs na ho4 hz4 hd4
      have S4 : L2.Inv (X.suite a (X.pn ++ pins)) [] σ1 (upd H1 a (ExAt c0 dx a)) { st with heap := h4 } :=
        ⟨K4.ok.suite _ _, K4.os, K4.bare, K4.base, K4.loc, K4.cell, K4.free, K4.freeC, fun p hp => K4.pin p (by rw [List.append_nil] at hp; exact hp), K4.hok, K4.len⟩
      have un4 : ∀ {σ6 : L2.St} {H6 : Hp} {s6 : Shared}, L2.Inv (X.suite a (X.pn ++ pins)) [] σ6 H6 s6 → L2.Inv X pins σ6 H6 s6 := fun {σ6 H6 s6} S => ⟨okX, S.os, S.bare, S.base, S.loc, S.cell, S.free, S.freeC, fun p hp => S.pin p (List.mem_append_left _ hp), S.hok, S.len⟩
      refine store_ok (X := X.suite a (X.pn ++ pins)) (v := .ref a) S4 hN hi (.inl hlm) rfl (fun s5 S5 => ?_) (.inr hlm)
      have suite : PSs (X.suite a (X.pn ++ pins)) [.Assign [.Name y py] (.Name m pm) p2] (tAsg (tVar i) (gName j)) := pss_one (ps_set (i := j) hN hj hly (pe_var (i := i) hi (.inl hlm) hm1 hm2) (by rfl) hly2)
      have hi5 : i < (σ1.set i (some (V.ref a))).length := by
        rw [List.length_set]
        have := K4.len
        rw [this]
        exact hij
      refine wpAny_mono (suite.run [] s5 _ _ { nx := fun σ6 H6 => σ6 = (σ1.set i (some (.ref a))).set j (some (.ref a)) ∧ H6 = upd H1 a (ExAt c0 dx a), rt := fun _ _ => False } S5 ⟨.ref a, by rw [List.getElem?_set, if_pos rfl, if_pos (by rw [List.length_set] at hi5; exact hi5)], rfl, rfl⟩) (fun fl6 s6 sp6 => ?_) fun _ _ z => z.elim
      cases fl6 with
      | next =>
        obtain ⟨σ6, H6, S6, e6, e7⟩ := sp6
        subst e6 e7
        exact gone_ok (un4 S6) hN hi hlm fun s7 J7 => ⟨_, _, J7, hq a na⟩
      | brk => obtain ⟨_, _, _, z⟩ := sp6; exact z.elim
      | cont => obtain ⟨_, _, _, z⟩ := sp6; exact z.elim
      | ret u => obtain ⟨_, _, _, _, _, z⟩ := sp6; exact z.elim
    | false =>
      show wpAny _ X.A (handleBy (.ref a) X.env []) _ _ _
      refine wpAny_handleBy_nil ?_
      obtain ⟨k1, k2, k3, o5, v5, tb5, ot5, t5, ho5, hz5, hd5, h15, hr5⟩ := id fl3
      unfold PySem.passOn
      refine wpAny_bind (wpAny_field ho5 hd5 h15 ?_)
      rw [if_neg (show ¬ ((Value.ref tb5 == Value.none) = true) from by simp)]
      have fin : wpAny (model X.prog X.w) X.A (setFlight (.ref a) X.env.frame) (fun _ s4 => wpAny (model X.prog X.w) X.A (throw (.ref a) : Sem Flow) (SP X pins D) X.xe s4) X.xe { st with heap := h3 } := by
        rw [hf]
        refine HandSPX.setFlight_upZ fl3 fun h4 hh4 up4 => wpAny_throw (tk _ _ ?_)
        exact ⟨a, B, sI, pins, σ1, H1, cls, d, rfl, J, nb, (up.trans up3).trans up4, .inr (.inr (by rw [hs]; exact hh4)), na, os, ag, hno rfl⟩
      first
        | exact wpAny_bind (wpAny_pure (wpAny_bind fin))
        | exact wpAny_bind fin
  · cases fl with
    | next =>
      obtain ⟨σ1, H1, J, q⟩ := sp
      exact wpAny_execs_nil ⟨σ1, H1, J.ofTry okX, q⟩
    | brk =>
      obtain ⟨σ1, H1, J, q⟩ := sp
      exact ⟨σ1, H1, J.ofTry okX, q⟩
    | cont =>
      obtain ⟨σ1, H1, J, q⟩ := sp
      exact ⟨σ1, H1, J.ofTry okX, q⟩
    | ret u =>
      obtain ⟨v, σ1, H1, J, r, q⟩ := sp
      exact ⟨v, σ1, H1, J.ofTry okX, r, q⟩
end
end MP
end
section
set_option maxRecDepth 100000
set_option maxHeartbeats 4000000
/-! MPHole: exceptions whose __init__ says super().__init__(value); self.value = value. -/
namespace MP
open PySem PySem.W PySem.Calls PyProof.Rows PySem.HandSPX
/-- the text of that __init__ -/
def initBody (p : List Pos) : List Stmt := [
  .Expr (.Call (.Attribute (.Call (.Name "super" (p.getD 0 default)) [] [] (p.getD 1 default)) "__init__" (p.getD 2 default)) [.Name "value" (p.getD 3 default)] [] (p.getD 4 default)) (p.getD 5 default),
  .Assign [.Attribute (.Name "self" (p.getD 6 default)) "value" (p.getD 7 default)] (.Name "value" (p.getD 8 default)) (p.getD 9 default)]
/-- the __init__ of the class C stands at f -/
structure InitF (prog : Program) (K : Frag) (C f : Addr) (fd : FuncData) : Prop where
  lk : ∃ oc od osl, K.lookup f = some ⟨oc, od, .func fd, osl⟩
  body : ∃ p, fd.body = .stmts (initBody p) ∧ ((p.getD 2 default).endLine == (p.getD 4 default).line) = true
  kind : fd.scope.kind = .function
  co : fd.scope.isCoroutine = false
  gen : fd.scope.isGenerator = false
  nocell : ∀ x ∈ fd.scope.names, x.2 ≠ .cell
  sSelf : fd.scope.names.lookup ("self" : Str) = some .local
  sValue : fd.scope.names.lookup ("value" : Str) = some .local
  sSuper : fd.scope.names.lookup ("super" : Str) = some .globalImplicit
  sClass : fd.scope.names.lookup ("__class__" : Str) = some .free
  par : ∃ ar, (fd.params.posonlyargs ++ fd.params.args).head? = some ar ∧ ar.arg = ("self" : Str)
  glo : fd.globals = mainGlobals
  blt : fd.builtins = builtinsNs
  code : ∃ cd oc od vs file tf osl tq, fd.code = .ref cd ∧ K.lookup cd = some ⟨oc, od, .fields vs, osl⟩ ∧ vs[1]? = some (.str fd.qualname tq) ∧ vs[2]? = some (.str file tf) ∧ ((prog.main.file : Str) == file) = true
  clo : ∃ cc D oc od osl cdD, fd.closure = [(("__class__" : Str), cc)] ∧ K.lookup cc = some ⟨oc, od, .cell (some (.ref D)), osl⟩ ∧ clsIn K D = some cdD ∧ mroIn K C (.ref D) = some true ∧ ks_superIn K C D "__init__" = some (some (.builtin "ValueError.__init__"))
  top : (prog.main.scope.names.lookup ("super" : Str)).isSome = false
  noAny : nsIn K cStatics "thirdparty.any" = some none
  val : subIn K (.ref C) (.type "ValueError") = some true
  binds : ∀ (s : Shared) (a b : Value), K.In s.heap → BindsTo s fd ⟨[a, b], []⟩ [("self", a), ("value", b)]
section
variable {prog : Program} {w : World} {A : Around} {E : Value → Shared → Prop}
theorem eval_meth {o : Expr} {name x : Str} {ap cp q : Pos} {env : Env} (hline : (ap.endLine == cp.line) = true) : eval (.Call (.Attribute o name ap) [.Name x q] [] cp) env = (do
      let ov ← attributeBase o name env (eval o env)
      standAt ap.atName
      let (f, first) ← holding [ov] (getMethod ov name (do return (← importBound o env).getD true))
      callWith cp f first (backTo cp (starEach [.Name x q] env)) []) := by
  have hpos : methodCallPos true o env ap cp = pure cp := by unfold methodCallPos; simp [hline]
  rw [arm_eval_Call]
  congr 1
  funext ov
  congr 1
  funext _
  show methodCall o name ap cp env ov 1 (backTo cp (starEach [.Name x q] env)) [] = _
  unfold methodCall
  rw [show methodCallForm 1 (backTo cp (starEach [.Name x q] env)) [] = true from rfl]
  congr 1
  funext fx
  rw [hpos]
  rfl
theorem call_bwV {h : Heap} {g : Array GenState} {d : Drawn} {t : Nat} {os : OsState} {nm q : Str} {C N : Addr} {bs bm : List Value} {hdct : Bool} {sn : List Str} {sub : List Value} {ab : Bool} {col : Option Bool} {dd : Option Addr} {k0 k1 k2 k3 k5 : Option Value} {u e t0 : Addr} {rest : List Value} {Q : Value → Shared → Prop}
    (hC : h.get? C = some (excClassObj nm q C N bs bm hdct sn sub ab col dd k0 k1 k2 k3 k5 "ValueError.__new__")) (hT : ∀ X : String, bm.contains (.type X) = veTail.contains (.type X)) (he : h.get? e = some (excO C t0)) (hu : h.get? u = some (kxs_mw "ValueError.__init__" e)) (hrest : rest.length ≤ sizeLine)
    (hq : ∀ h' t1, (∀ b o, b ≠ e → h.get? b = some o → h'.get? b = some o) → h'.get? e = some (excO C t1) → Q .none ⟨h', g, d, t, os⟩) :
    wpAny (model prog w) A (call (.ref u) rest) Q E ⟨h, g, d, t, os⟩ := by
  refine wpAny_call (codeAny_of_tree ?_)
  show wpAny _ A.in1 (callAny (.ref u) ⟨rest, []⟩) _ _ _
  simp only [callAny]
  refine wpAny_bind (wpAny_load hu ?_)
  simp only [kxs_mw, show (Value.type "method-wrapper" == Value.type "method" || Value.type "method-wrapper" == Value.type "builtin_function_or_method" || Value.type "method-wrapper" == Value.type "method-wrapper") = true by decide, if_true]
  refine W.KFB.if_so (by decide) (wpAny_bind (ESX.check_bound F.excBase_ValueError hC he rfl (wpAny_bind (wpAny_pure (wpAny_pure ⟨Code.quiet_builtin _ (by decide +kernel), codeAny_builtin F.excBase_ValueError.initEntry ?_⟩)))))
  rw [Around.under_plainId F.excBase_ValueError.init.plain _]
  wp_walk
  refine hq _ h.objs.size (fun b o hb ho => ?_) ?_
  · exact (Heap.get?_update_other _ _ (Ne.symm hb)).trans (Heap.get?_push_of_some _ ho)
  · exact (Heap.get?_update_self _ (Heap.get?_push_of_some _ he) rfl).trans rfl
/-- the run of that __init__ -/
theorem init_run {K : Frag} {C f e t0 : Addr} {fd : FuncData} {v : Value} {s : Shared} {R : Result → Shared → Prop} {mg mb : Str → Option Value} (I : InitF prog K C f fd) (X : K.In s.heap) (hdep : A.depth < recursionLimit) (hlim : s.heap.NoLimit)
    (hg : s.heap.Ns mainGlobals mg) (hsup : mg "super" = none) (hb : s.heap.Ns builtinsNs mb) (hbs : mb "super" = some (.type "super"))
    {nm q : Str} {N : Addr} {bs bm : List Value} {sn : List Str} {sub : List Value} {ab : Bool} {col : Option Bool} {dd : Option Addr} {k0 k1 k2 k3 k5 : Option Value}
    (hC : K.lookup C = some (excClassObj nm q C N bs bm true sn sub ab col dd k0 k1 k2 k3 k5 "ValueError.__new__")) (hT : refsVE bm = true) (sa : findIn K (.ref C) "__setattr__" = some (some (.builtin "object.__setattr__"))) (hno : findIn K (.ref C) "value" = some none)
    (he : s.heap.get? e = some (excO C t0)) (hKe : K.lookup e = none)
    (h : ∀ h' tk dx t1, (∀ b o, b ≠ e → s.heap.get? b = some o → h'.get? b = some o) → s.heap.get? dx = none → dx ≠ e → h'.get? e = some { cls := .ref C, dict := some dx, data := .fields #[.ref t1, .none, .none, .none, .bool false, .none] } → h'.Ns1 dx (fun y => if y = ("value" : Str) then some v else none) → R (.ok (.ret .none)) { s with heap := h', toks := tk }) :
    codeAny (model prog w) A (.call (.ref f) ⟨[.ref e, v], []⟩) R s := by
  obtain ⟨oc, od, osl, lkf⟩ := I.lk
  obtain ⟨p, hbody, hline⟩ := I.body
  obtain ⟨cda, oc2, od2, vs2, file, tf, osl2, tq, hcd, lkc, hv1, hv2, hfile⟩ := I.code
  obtain ⟨cc, D, oc3, od3, osl3, cdD, hclo, lkcc, hclsD, hsub, hsuper⟩ := I.clo
  obtain ⟨ar, har, hself⟩ := I.par
  have hCh := X _ _ hC
  have hcl : clsIn K C = some { name := nm, bases := bs, mro := .ref C :: bm, ns := N, qualname := q, hasDict := true, slotNames := sn, subclasses := sub, abstract := ab, collection := col, hasDel := false } := by unfold clsIn; rw [hC] <;> rfl
  have hTv : ∀ Y : String, bm.contains (.type Y) = veTail.contains (.type Y) := fun Y => refsVE_contains Y bm hT
  obtain ⟨oD, hD1, hD2⟩ : ∃ oD, K.lookup D = some oD ∧ oD.data = .cls cdD := by
    unfold clsIn at hclsD
    split at hclsD
    · rename_i c d cd' sl ho
      cases hclsD
      exact ⟨_, ho, rfl⟩
    · cases hclsD
  have hbd : ("self" : Str) ≠ "value" := by decide
  refine ks_codeAny_call_defAt hdep (X _ _ lkf) rfl hlim ⟨cda, _, _, _, hcd, X _ _ lkc, rfl, hv1⟩ hbody (I.binds s (.ref e) v X) I.nocell (fun x hx => ?_) (fun h₀ hns k0' => ?_) I.co I.gen I.kind
  · rcases List.mem_cons.mp hx with rfl | hx
    · exact I.sSelf
    · rcases List.mem_cons.mp hx with rfl | hx
      · exact I.sValue
      · cases hx
  generalize henv : callEnv fd s.heap.objs.size f = env
  have eL : env.locals = s.heap.objs.size := by rw [← henv]; rfl
  have eS : env.scope = fd.scope := by rw [← henv]; rfl
  have eG : env.globals = mainGlobals := by rw [← henv]; exact I.glo
  have eB : env.builtins = builtinsNs := by rw [← henv]; exact I.blt
  have eF : env.func = some f := by rw [← henv]; rfl
  have eC : env.code = .ref cda := by rw [← henv]; exact hcd
  have eCl : env.cells = [(("__class__" : Str), cc)] := by rw [← henv]; exact hclo
  have kf : env.scope.kind = .function := by rw [eS]; exact I.kind
  have kSelf : env.kindOf "self" = some .local := by show env.scope.names.lookup _ = _; rw [eS]; exact I.sSelf
  have kValue : env.kindOf "value" = some .local := by show env.scope.names.lookup _ = _; rw [eS]; exact I.sValue
  have kSuper : env.kindOf "super" = some .globalImplicit := by show env.scope.names.lookup _ = _; rw [eS]; exact I.sSuper
  have kClass : env.kindOf "__class__" = some .free := by show env.scope.names.lookup _ = _; rw [eS]; exact I.sClass
  have lSelf : (fun x => ([(("self" : Str), Value.ref e), ("value", v)] : List (Str × Value)).reverse.lookup x) "self" = some (.ref e) := rfl
  have lValue : (fun x => ([(("self" : Str), Value.ref e), ("value", v)] : List (Str × Value)).reverse.lookup x) "value" = some v := rfl
  have neK : ∀ a o, K.lookup a = some o → a ≠ e := fun a o q z => by
    rw [z, hKe] at q
    cases q
  have X0 : K.In h₀ := fun b o q => k0' b o (X b o q)
  have he0 : h₀.get? e = some (excO C t0) := k0' _ _ he
  refine ks_wpAt_execs_cons (ks_wpAt_Expr_any (ks_wpAt_MethodCall (ks_wpAt_super_base kSuper kClass (by decide) eF (X0 _ _ lkf) rfl har eC (X0 _ _ lkc) rfl hv2 hfile I.top ?_) (eval_meth hline)) (by simp [interactive, kf]) rfl)
  refine ks_loadName_global kf kSuper (loadGlobal_builtin (by rw [eG]; exact hg.keeps k0') hsup (by rw [eB]; exact hb.keeps k0') hbs ⟨rfl, ?_⟩)
  refine wpAny_loadName_free kf kClass (by rw [eCl]; rfl) ⟨_, X0 _ _ lkcc, rfl⟩ ?_
  rw [hself]
  refine wpAny_loadName_local kf kSelf (by rw [eL]; exact hns) lSelf ?_
  refine ks_wpAny_isType_cls (X0 _ _ hD1) hD2 ⟨rfl, ?_⟩
  refine ks_wpAny_call_super (X0 _ _ hD1) hD2 he0 rfl (fun c z => nomatch z) (looks_mroIn X0 hsub) (fun h1 e1 k1 => ?_)
  have X1 : K.In h1 := fun b o q => k1 b o (X0 b o q)
  have he1 : h1.get? e = some (excO C t0) := k1 _ _ he0
  have hI1 : Looks (model prog w) h1 (isInstance (.ref e) (.type "ValueError")) true := (InstAt.type (ox := excO C t0) (od := none) ⟨he1, rfl, rfl, trivial⟩).andThen (looks_subIn X1 I.val)
  refine kxs_getMethod kxs_ValueError e1 (looks_opaque X1 I.noAny) (l₀ := Value.ref C :: bm) (fun A Q E s k q => wpAny_bind ((looks_clsIn X1 hcl) A _ E s k (wpAny_pure q))) rfl X1 (by unfold ks_superIn at hsuper; rw [hcl] at hsuper; exact hsuper) hI1 (fun z => neK C _ hC z.symm) (by decide) ?_
  have X2 : K.In (h1.push (kxs_mw "ValueError.__init__" e)) := fun b o q => Heap.get?_push_of_some _ (X1 b o q)
  have k2 : ∀ b o, s.heap.get? b = some o → (h1.push (kxs_mw "ValueError.__init__" e)).get? b = some o := fun b o q => Heap.get?_push_of_some _ (k1 b o (k0' b o q))
  have hns2 : (h1.push (kxs_mw "ValueError.__init__" e)).Ns s.heap.objs.size (fun x => ([(("self" : Str), Value.ref e), ("value", v)] : List (Str × Value)).reverse.lookup x) := hns.keeps fun b o q => Heap.get?_push_of_some _ (k1 b o q)
  refine kxs_callWith (i := "ValueError.__init__") (x := e) (by rfl) (evalArgs_plain (Calls.spliced_cons (wpAny_Name (wpAny_loadName_local kf kValue (by rw [eL]; exact hns2) lValue (Calls.spliced_nil ⟨Heap.get?_push_size _ rfl, ?_⟩)) (by decide))))
  refine call_bwV (X2 _ _ hC) hTv (Heap.get?_push_of_some _ he1) (Heap.get?_push_size _ rfl) (by show 1 ≤ sizeLine; rw [sizeLine_eq]; decide) fun h3 t1 k3 e3 => ?_
  have k3' : ∀ b o, b ≠ e → s.heap.get? b = some o → h3.get? b = some o := fun b o hb q => k3 b o hb (k2 b o q)
  have X3 : K.In h3 := fun b o q => k3 b o (neK b o q) (X2 b o q)
  have eLne : s.heap.objs.size ≠ e := Nat.ne_of_gt (Heap.lt_size he)
  have hns3 : h3.Ns s.heap.objs.size (fun x => ([(("self" : Str), Value.ref e), ("value", v)] : List (Str × Value)).reverse.lookup x) := by
    obtain ⟨o, es, ep, q1, q2⟩ := hns2
    exact ⟨o, es, ep, k3 _ _ eLne q1, q2⟩
  refine wpAt_of_wpAny (wpAny_execs_cons (plainObj_wpAny_Assign_Attribute (wpAny_Name (wpAny_loadName_local kf kValue (by rw [eL]; exact hns3) lValue (wpAny_Name (wpAny_loadName_local kf kSelf (by rw [eL]; exact hns3) lSelf ?_) (by decide))) (by decide)) (by rfl)))
  refine set_plain X3 (ox := excO C t1) (od := none) ⟨e3, rfl, rfl, trivial⟩ sa ?_
  refine exc_osa X3 e3 hcl (show refsVE (.ref C :: bm) = true from hT) rfl hno fun h4 tk4 dx k4 d4 dne e4 n4 => ?_
  refine wpAny_execs_nil ?_
  have hdx : s.heap.get? dx = none := by
    cases q : s.heap.get? dx with
    | none => rfl
    | some o => exact absurd (Heap.lt_size (k3' dx o dne q)) (Nat.not_lt.mpr d4)
  exact h h4 _ dx t1 (fun b o hb q => k4 b o hb (k3' b o hb q)) hdx dne e4 n4
end
end MP
namespace MP
open PySem L2 PySem.Spec PyProof.Rows
variable [Glo]
/-- a class of the module whose instances hold their value -/
structure HoleC (prog : Program) (K : PySem.W.Frag) (C : Addr) : Prop where
  oex : OexC K C
  ini : ∃ f fd, PySem.W.findIn K (.ref C) "__init__" = some (some (.ref f)) ∧ PySem.W.typeIn K (.ref f) = some (.type "function") ∧ InitF prog K C f fd
  no : PySem.W.findIn K (.ref C) "value" = some none
theorem mkx_of {X : Cx} {k n : Nat} {x : Str} (h : HoleC X.prog X.K (Glo.cl k)) (hm : X.mg x = some (.ref (Glo.cl k))) (hs : X.mg "super" = none) (hr : Room n X.A) (hg : Gl X x) (hd : (x == ("__debug__" : Str)) = false) : MkX X k x := by
  obtain ⟨oex, ⟨f, fd, iC, tI, IF⟩, no⟩ := h
  obtain ⟨nm, q, N, bs, bm, sn, sub, ab, col, dd, k0, k1, k2, k3, k5, hC, hbm⟩ := oex.cls
  intro y ty p pos hy hsy pins s σ H Q I w
  refine wpAny_Call_Name_kw (ld_glob I hg hm ?_ hd)
  refine PySem.W.callWith_K (h₀ := X.base) I.ok.mod.kin oex.kC ?_ (star_cons hsy) rfl
  refine thn ((pa_cons hy pa_nil (star_cons hsy)).run pos pins s σ H (fun vs H1 => match vs with
    | [v] => ∀ dx, H1 dx = none → Q (.ref (Glo.cl k)) (some dx) (upd H1 dx (.xd [(("value" : Str), v)]))
    | _ => False) I w) fun us s1 ⟨vs, H1, I1, r1, q1⟩ => ⟨I1.kIn, ?_⟩
  rcases vs with _ | ⟨v, _ | ⟨_, _⟩⟩
  · exact q1.elim
  rotate_left
  · exact q1.elim
  have q1 : ∀ dx, H1 dx = none → Q (.ref (Glo.cl k)) (some dx) (upd H1 dx (.xd [(("value" : Str), v)])) := q1
  obtain ⟨u, rfl, ru⟩ := L2.vals1 r1
  show wpAny _ _ (call (.ref (Glo.cl k)) [u]) _ _ _
  obtain ⟨hp, g, dr, tk, os⟩ := s1
  have keep2 : ∀ b o, hp.get? b = some o → ((hp.push (PySem.W.kdv_tup [u])).push (PySem.HandSPX.excO (Glo.cl k) hp.objs.size)).get? b = some o := fun b o e => Heap.get?_push_of_some _ (Heap.get?_push_of_some _ e)
  have hget : ((hp.push (PySem.W.kdv_tup [u])).push (PySem.HandSPX.excO (Glo.cl k) hp.objs.size)).get? (hp.objs.size + 1) = some (PySem.HandSPX.excO (Glo.cl k) hp.objs.size) := by heap_get
  have KX : X.K.In hp := I1.kIn
  obtain ⟨mb, b1, b2⟩ := I1.mod.blt
  have dp : X.A.depth + 3 * n + 5 < recursionLimit := hr.dp
  refine wpAny_call (PySem.HandSPX.call_own F.excBase_ValueError (fun Y => PySem.HandSPX.refsVE_contains Y bm hbm) (KX _ _ hC) (PySem.W.looks_findIn KX iC) (fun self => PySem.W.bind_fn KX self tI) (by show 1 ≤ sizeLine; rw [sizeLine_eq]; decide) ?_)
  refine init_run (A := X.A.under (.builtin "type.__call__" ⟨.ref (Glo.cl k) :: [u], []⟩)) (v := u) (mg := X.mg) (mb := mb) IF (fun b o q => keep2 b o (KX b o q)) (by rw [make_depth]; show X.A.depth + 1 < recursionLimit; omega) (I1.nolimit.keeps keep2) (I1.mod.glob.keeps fun b o e => keep2 b o (I1.bk b o e)) hs (b1.keeps fun b o e => keep2 b o (I1.bk b o e)) ((b2 _ (by decide)).trans (by decide +kernel)) hC hbm oex.sa no hget ?_ fun h' tk' dx t1 kk hdx dne e' n' => ?_
  · cases e : X.K.lookup (hp.objs.size + 1) with
    | none => rfl
    | some o => exact absurd (Heap.lt_size (KX _ _ e)) (Nat.not_lt.mpr (Nat.le_succ _))
  refine ⟨rfl, ?_⟩
  show MkP X pins σ Q (.ref (hp.objs.size + 1)) _
  have nx : H1 dx = none := I1.hok.gone (by
    cases e : hp.get? dx with
    | none => rfl
    | some o => exact absurd (keep2 _ _ e) (by rw [show ((hp.push (PySem.W.kdv_tup [u])).push (PySem.HandSPX.excO (Glo.cl k) hp.objs.size)).get? dx = none from hdx]; exact fun z => nomatch z))
  have px : hp.get? dx = none := by
    cases e : hp.get? dx with
    | none => rfl
    | some o => exact absurd (keep2 _ _ e) (by rw [show ((hp.push (PySem.W.kdv_tup [u])).push (PySem.HandSPX.excO (Glo.cl k) hp.objs.size)).get? dx = none from hdx]; exact fun z => nomatch z)
  obtain ⟨G, g1, g2⟩ := restrict h' fun b => decide (b ≠ hp.objs.size + 1)
  have gk : ∀ b, b ≠ hp.objs.size + 1 → G.get? b = h'.get? b := fun b hb => g1 b (decide_eq_true hb)
  have ge : G.get? (hp.objs.size + 1) = none := g2 _ (by simp)
  have lt : ∀ {b : Addr} {o : Obj}, hp.get? b = some o → b ≠ hp.objs.size + 1 := fun {b o} e z => by
    have h1 : b < hp.objs.size := Heap.lt_size e
    have z1 : (b : Nat) = hp.objs.size + 1 := z
    exact absurd h1 (by rw [z1]; exact Nat.not_lt.mpr (Nat.le_succ _))
  have ne : H1 (hp.objs.size + 1) = none := I1.hok.fresh (Nat.le_succ _)
  have new : ObjOk X.prog X.w (upd H1 dx (.xd [(("value" : Str), v)])) G dx (.xd [(("value" : Str), v)]) := by
    refine ⟨_, n'.at fun o y => (gk dx dne).trans y, fun nn => ?_⟩
    by_cases hn : nn = ("value" : Str)
    · subst hn
      simp only [if_true]
      exact ru
    · have e1 : ([(("value" : Str), v)] : List (Str × V)).lookup nn = none := by
        show (match nn == ("value" : Str) with | true => some v | false => none) = none
        rw [beq_eq_false_iff_ne.mpr hn]
      rw [e1, if_neg hn]
      exact True.intro
  have J := Inv.laidN (h' := G) (t' := tk') I1 (fun b o e => (gk b (lt e)).trans (kk b o (lt e) (keep2 b o e))) px nx new
  exact ⟨hp.objs.size + 1, _, _, { heap := G, gens := g, drawn := dr, toks := tk', os := os }, _, .ref (Glo.cl k), some dx, rfl, J, fun b o e => by
    by_cases hb : b = hp.objs.size + 1
    · rw [hb, ge] at e
      cases e
    · exact (gk b hb).symm.trans e, ge, e', ⟨rfl, rfl⟩, rfl, rfl, by rw [upd_ne (Ne.symm dne)]; exact ne, rfl, I1.bare, raises_own oex.exC oex.tyC, q1 dx nx⟩
end MP
end
section
set_option maxRecDepth 100000
set_option maxHeartbeats 8000000
/-! MPSnd22: every statement that the static look lets. -/
namespace MP
open PySem L2
/-! ### parts of a written statement -/
def asAsg : Stmt → Option (Expr × Expr)
  | .Assign [t] y _ => some (t, y)
  | _ => none
theorem asAsg_eq {x : Stmt} {t y : Expr} (h : asAsg x = some (t, y)) : ∃ p, x = .Assign [t] y p := by
  unfold asAsg at h
  split at h
  · cases h; exact ⟨_, rfl⟩
  · cases h
def asAug : Stmt → Option (Expr × Operator × Expr)
  | .AugAssign t o y _ => some (t, o, y)
  | _ => none
theorem asAug_eq {x : Stmt} {t y : Expr} {o : Operator} (h : asAug x = some (t, o, y)) : ∃ p, x = .AugAssign t o y p := by
  unfold asAug at h
  split at h
  · cases h; exact ⟨_, rfl⟩
  · cases h
def asExp : Stmt → Option Expr
  | .Expr y _ => some y
  | _ => none
theorem asExp_eq {x : Stmt} {y : Expr} (h : asExp x = some y) : ∃ p, x = .Expr y p := by
  unfold asExp at h
  split at h
  · cases h; exact ⟨_, rfl⟩
  · cases h
def asRet : Stmt → Option (Option Expr)
  | .Return y _ => some y
  | _ => none
theorem asRet_eq {x : Stmt} {y : Option Expr} (h : asRet x = some y) : ∃ p, x = .Return y p := by
  unfold asRet at h
  split at h
  · cases h; exact ⟨_, rfl⟩
  · cases h
def asIfS : Stmt → Option (Expr × List Stmt × List Stmt)
  | .If t a b _ => some (t, a, b)
  | _ => none
theorem asIfS_eq {x : Stmt} {t : Expr} {a b : List Stmt} (h : asIfS x = some (t, a, b)) : ∃ p, x = .If t a b p := by
  unfold asIfS at h
  split at h
  · cases h; exact ⟨_, rfl⟩
  · cases h
def asFor : Stmt → Option (Expr × Expr × List Stmt)
  | .For t i b [] _ => some (t, i, b)
  | _ => none
theorem asFor_eq {x : Stmt} {t i : Expr} {b : List Stmt} (h : asFor x = some (t, i, b)) : ∃ p, x = .For t i b [] p := by
  unfold asFor at h
  split at h
  · cases h; exact ⟨_, rfl⟩
  · cases h
def asWhl : Stmt → Option (Expr × List Stmt)
  | .While t b [] _ => some (t, b)
  | _ => none
theorem asWhl_eq {x : Stmt} {t : Expr} {b : List Stmt} (h : asWhl x = some (t, b)) : ∃ p, x = .While t b [] p := by
  unfold asWhl at h
  split at h
  · cases h; exact ⟨_, rfl⟩
  · cases h
def isBrk : Stmt → Bool
  | .Break _ => true
  | _ => false
theorem isBrk_eq {x : Stmt} (h : isBrk x = true) : ∃ p, x = .Break p := by
  unfold isBrk at h
  split at h
  · exact ⟨_, rfl⟩
  · cases h
def isCnt : Stmt → Bool
  | .Continue _ => true
  | _ => false
theorem isCnt_eq {x : Stmt} (h : isCnt x = true) : ∃ p, x = .Continue p := by
  unfold isCnt at h
  split at h
  · exact ⟨_, rfl⟩
  · cases h
def isPas : Stmt → Bool
  | .Pass _ => true
  | .Expr (.Constant (.str _) _ _) _ => true
  | _ => false
theorem isPas_eq {x : Stmt} (h : isPas x = true) : (∃ p, x = .Pass p) ∨ ∃ z j p q, x = .Expr (.Constant (.str z) j p) q := by
  unfold isPas at h
  split at h
  · exact .inl ⟨_, rfl⟩
  · exact .inr ⟨_, _, _, _, rfl⟩
  · cases h
def asRai : Stmt → Option (Str × Expr)
  | .Raise (some (.Call (.Name x _) [y] [] _)) none _ => some (x, y)
  | _ => none
theorem asRai_eq {x : Stmt} {n : Str} {y : Expr} (h : asRai x = some (n, y)) : ∃ p q r, x = .Raise (some (.Call (.Name n p) [y] [] q)) none r := by
  unfold asRai at h
  split at h
  · cases h; exact ⟨_, _, _, rfl⟩
  · cases h
def asTry : Stmt → Option (List Stmt × Str × Str × Str × Str)
  | .Try body [.ExceptHandler (some (.Name x _)) (some m) [.Assign [.Name y _] (.Name m' _) _] _] [] [] _ => some (body, x, m, y, m')
  | _ => none
theorem asTry_eq {z : Stmt} {b : List Stmt} {x m y m' : Str} (h : asTry z = some (b, x, m, y, m')) : ∃ np py pm p2 q r, z = .Try b [.ExceptHandler (some (.Name x np)) (some m) [.Assign [.Name y py] (.Name m' pm) p2] q] [] [] r := by
  unfold asTry at h
  split at h
  · cases h; exact ⟨_, _, _, _, _, _, rfl⟩
  · cases h
def asLcP : Expr → Option (Expr × Expr × Expr × List Expr × Scope × Pos)
  | .ListComp x [⟨tg, it, ifs, 0⟩] sc p => some (x, tg, it, ifs, sc, p)
  | _ => none
theorem asLcP_eq {y x tg it : Expr} {ifs : List Expr} {sc : Scope} {p : Pos} (h : asLcP y = some (x, tg, it, ifs, sc, p)) : y = .ListComp x [⟨tg, it, ifs, 0⟩] sc p := by
  unfold asLcP at h
  split at h
  · cases h; rfl
  · cases h
def asNameP : Expr → Option (Str × Pos)
  | .Name x p => some (x, p)
  | _ => none
theorem asNameP_eq {x : Expr} {n : Str} {p : Pos} (h : asNameP x = some (n, p)) : x = .Name n p := by
  unfold asNameP at h
  split at h
  · cases h; rfl
  · cases h
/-- a list by a comprehension on the target's line -/
def okLcS (T : Tab) (se : SE) (n : Str) (p : Pos) (e : Ex) (y : Expr) : Bool := match e with
  | .lc a tg tp s i own => (match asLcP y with
    | some (_, _, _, _, sc, q) => lcB se.sc sc n p q && okE T se (.lc a tg tp s i own) y
    | none => false)
  | .mk (.lc a tg tp s i own) => (match asLcP y with
    | some (_, _, _, _, sc, q) => lcB se.sc sc n p q && okE T se (.lc a tg tp s i own) y
    | none => false)
  | _ => false
/-! ### the static look -/
def isKnN : Ex → Bool
  | .kn .non => true
  | _ => false
theorem isKnN_eq {e : Ex} (h : isKnN e = true) : e = .kn .non := by
  unfold isKnN at h
  split at h
  · rfl
  · cases h
def keepOf : Hn → Option Nat
  | .keep j => some j
  | _ => none
theorem keepOf_eq {h : Hn} {j : Nat} (e : keepOf h = some j) : h = .keep j := by
  unfold keepOf at e
  split at e
  · cases e; rfl
  · cases e
mutual
def okSt (T : Tab) : SE → Sm → Stmt → Bool
  | se, .set i e, x => match asAsg x with
    | some (t, y) => (match asNameP t with
      | some (n, p) => decide (se.N[i]? = some n) && (locB se n && ((swB se n p y && okE T se e y) || okLcS T se n p e y))
      | none => false)
    | none => false
  | se, .par is es, x => match asAsg x with
    | some (t, y) => (match asTup t, asTup y with
      | some ts, some vs => okPar se is ts vs && okEs T se es vs
      | _, _ => false)
    | none => false
  | se, .unp is e, x => match asAsg x with
    | some (t, y) => (match asTup t with
      | some ts => okNames se is ts && (!isComp y && (stoB se ts y && okE T se e y))
      | none => false)
    | none => false
  | se, .sti a i e, x => match asAsg x with
    | some (t, y) => (match asSub t with
      | some (a', i') => !isSlice i' && (!isComp y && (okE T se a a' && (okE T se i i' && okE T se e y)))
      | none => false)
    | none => false
  | se, .aug i op e, x => match asAug x with
    | some (t, o, y) => (match asName t with
      | some n => decide (se.N[i]? = some n) && (locB se n && (okIo op o && okE T se e y))
      | none => false)
    | none => false
  | se, .agi a i op e, x => match asAug x with
    | some (t, o, y) => (match asSub t with
      | some (a', i') => !isSlice i' && (okIo op o && (okE T se a a' && (okE T se i i' && okE T se e y)))
      | none => false)
    | none => false
  | se, .exp e, x => match asExp x with
    | some y => !isComp y && okE T se e y
    | none => false
  | se, .ret e, x => match asRet x with
    | some (some y) => okE T se e y
    | some none => isKnN e
    | none => false
  | se, .ife t a b, x => match asIfS x with
    | some (t', a', b') => okE T se t t' && (okSts T se a a' && okSts T se b b')
    | none => false
  | se, .for_ tg tp s b, x => match asFor x with
    | some (t', i', b') => okG se tg tp t' && (notSet i' && (okS T se t' s i' && okSts T se b b'))
    | none => false
  | se, .whl t b, x => match asWhl x with
    | some (t', b') => okE T se t t' && okSts T se b b'
    | none => false
  | _, .brk, x => isBrk x
  | _, .cnt, x => isCnt x
  | _, .pas, x => isPas x
  | se, .rai k e, x => match asRai x with
    | some (n, y) => decide (T.exc[k]? = some n) && (gloB se.sc n && (okNm n && (!isStar y && okE T se e y)))
    | none => false
  | se, .tri b cs no i h, x => match keepOf h, asTry x with
    | some j, some (b', n, m, y, m') => decide (m = m') && (decide (se.N[i]? = some m) && (decide (se.sc.names.lookup m = some .local) && (decide (se.N[j]? = some y) && (locB se y && (okNm m && (gloB se.sc n && (okNm n && (okSts T se b b' &&
        ((List.range T.exc.length).any fun g => decide (T.exc[g]? = some n) && ((cs.all fun k => decide (k < T.exc.length) && (decide (k = g) || decide (g = 0))) && (no.all fun k => decide (k < T.exc.length) && !(decide (k = g) || decide (g = 0)))))))))))))
    | _, _ => false
def okSts (T : Tab) : SE → Sms → List Stmt → Bool
  | _, .nil, xs => xs.isEmpty
  | se, .cons s ss, xs => match xs with
    | x :: r => okSt T se s x && okSts T se ss r
    | [] => false
end
variable [Glo]
/-- a body's context, whose exceptions' classes are known -/
structure GT (T : Tab) (C : Nat → Addr) (W : WX) (c : Cxt) (n : Nat) (se : SE) (X : Cx) : Prop extends GX T C W c n se X where
  tk : Takes X W
  own : PassesOwn (model X.prog X.w) X.A X.env X.xe
  stk : X.stack = X.env :: X.outer
  frm : X.env.frame = some X.env.locals
  kd : se.sc.kind = .function
  hol : ∀ (k : Nat) (x : Str), T.exc[k]? = some x → HoleC X.prog X.K (Glo.cl k)
  sup : X.mg "super" = none
  exm : ∀ g k, g < T.exc.length → k < T.exc.length → PySem.W.exmOne X.K (.ref (Glo.cl g)) (.ref (Glo.cl k)) = some (decide (g = k) || decide (k = 0))
section
variable {T : Tab} {C : Nat → Addr} {W : WX} {c : Cxt} {n : Nat} {se : SE} {X : Cx}
theorem GT.gs (G : GT T C W c n se X) : GS T C W c n se X :=
  { G with mkx := fun k x e g1 g2 => mkx_of (G.hol k x e) (G.exc k x e).1 G.sup G.room (gloB_ok (by rw [G.sc]; exact g1)) (okNm_ok g2).1 }
theorem GT.tr {W' : WX} {pn : List (Addr × Obj)} {xe : Value → Shared → Prop} (G : GT T C W c n se X) (tk : Takes (X.tr pn xe) W') (own : PassesOwn (model X.prog X.w) X.A X.env xe) : GT T C W' c n se (X.tr pn xe) where
  N := G.N
  nd := G.nd
  sc := G.sc
  fn := G.fn
  calm := G.calm
  gd := G.gd
  room := G.room
  bl := G.bl
  con := G.con
  nf := G.nf
  fns := G.fns
  nx := G.nx
  exc := G.exc
  exk := G.exk
  sp := G.sp
  ps := fun σ => passAt tk σ
  tk := tk
  own := own
  stk := G.stk
  frm := G.frm
  kd := G.kd
  hol := G.hol
  sup := G.sup
  exm := G.exm
theorem slo_keep {F : Fr} {H : Hp} {ρ : Sl} {σ : L2.St} {i j k : Nat} {d : D} {v : V} {a dx : Addr} (hk : k < Glo.nx) (hl : Slo F H ρ σ) (hs : Sto F H) (ha : H a = none) (hd : H dx = some (.xd [(("value" : Str), v)])) (hu : ¬ F.un dx) (hr : Rep F H d v) (hj : j < ρ.length) :
    Slo F (upd H a (ExAt (Glo.cl k) dx a)) ((ρ.set j (some (.exv k d))).set i none) (((σ.set i (some (.ref a))).set j (some (.ref a))).set i none) := by
  have x := Ext.fresh F (ExAt (Glo.cl k) dx a) ha
  refine ⟨by simp [hl.1], fun p e hp => ?_⟩
  by_cases h1 : i = p
  · subst h1
    rw [List.getElem?_set] at hp
    split at hp
    · split at hp <;> cases hp
    · exact absurd rfl (by assumption)
  · rw [List.getElem?_set, if_neg h1] at hp
    rw [List.getElem?_set, if_neg h1]
    by_cases h2 : j = p
    · subst h2
      rw [List.getElem?_set, if_pos rfl, if_pos hj] at hp
      cases hp
      rw [List.getElem?_set, if_pos rfl, if_pos (by rw [List.length_set, ← hl.1]; exact hj)]
      exact ⟨_, rfl, hk, a, dx, v, rfl, hs.nun ha, upd_same, hu, by rw [upd_ne (ne_of_none hd ha)]; exact hd, hr.ext x⟩
    · rw [List.getElem?_set, if_neg h2] at hp
      rw [List.getElem?_set, if_neg h2, List.getElem?_set, if_neg h1]
      obtain ⟨w, e1, e2⟩ := hl.2 p e hp
      exact ⟨w, e1, e2.ext x⟩
end
section
variable {T : Tab} {C : Nat → Addr} {c : Cxt} {n : Nat} {se : SE}
theorem lcS_ok {W : WX} {X : Cx} (G : GT T C W c n se X) {i : Nat} {x : Str} {p pos : Pos} {e : Ex} {y : Expr} (hi : se.N[i]? = some x) (h : okLcS T se x p e y = true) : PS X (.Assign [.Name x p] y pos) (stT C W c (.set i e)) := by
  have tgs : ∀ {a : Ex} {tg : List Nat} {tp : Bool} {s : Sr} {o : Ox} {own : List Nat} {y' tg' it : Expr} {ifs : List Expr} {sc : Scope} {q : Pos}, okE T se (.lc a tg tp s o own) (.ListComp y' [⟨tg', it, ifs, 0⟩] sc q) = true → ∀ j ∈ tg, j ∈ own := by
    intro a tg tp s o own y' tg' it ifs sc q h j hj
    simp only [okE, asLc, Bool.and_eq_true, decide_eq_true_eq] at h
    obtain ⟨_, _, _, _, _, _, _, h7⟩ := h
    rw [List.all_eq_true] at h7
    simpa using h7 j hj
  unfold okLcS at h
  split at h
  · split at h
    · rename_i hm
      rw [asLcP_eq hm] at h ⊢
      rw [Bool.and_eq_true] at h
      exact ps_setLcF G.gs hi h.1 h.2 fun σ H Q w => tLc_of (tgs h.2) w
    · cases h
  · split at h
    · rename_i hm
      rw [asLcP_eq hm] at h ⊢
      rw [Bool.and_eq_true] at h
      exact ps_setLcF G.gs hi h.1 h.2 fun σ H Q w => mkLc_of (tgs h.2) w
    · cases h
  · cases h
mutual
theorem okSt_ok : ∀ (s : Sm) {W : WX} {X : Cx} {x : Stmt}, GT T C W c n se X → okSt T se s x = true → PS X x (stT C W c s)
  | .set i e, W, X, x, G, h => by
    rw [okSt] at h
    split at h
    · rename_i t y hm
      obtain ⟨q, rfl⟩ := asAsg_eq hm
      split at h
      · rename_i m p hm
        have := asNameP_eq hm
        subst this
        simp only [Bool.and_eq_true, Bool.or_eq_true, decide_eq_true_eq] at h
        obtain ⟨h1, h2, h3⟩ := h
        rcases h3 with h3 | h3
        · exact ps_setF G.gs h1 h2 h3.1 (okE_ok e G.toGX h3.2).v
        · exact lcS_ok G h1 h3
      · cases h
    · cases h
  | .par is es, W, X, x, G, h => by
    rw [okSt] at h
    split at h
    · rename_i t y hm
      obtain ⟨q, rfl⟩ := asAsg_eq hm
      split at h
      · rename_i ts vs h1 h2
        obtain ⟨_, _, rfl⟩ := asTup_eq h1
        obtain ⟨_, _, rfl⟩ := asTup_eq h2
        rw [Bool.and_eq_true] at h
        exact ps_parF G.gs h.1 (okEs_ok es G.toGX h.2)
      · cases h
    · cases h
  | .unp is e, W, X, x, G, h => by
    rw [okSt] at h
    split at h
    · rename_i t y hm
      obtain ⟨q, rfl⟩ := asAsg_eq hm
      split at h
      · rename_i ts h1
        obtain ⟨_, _, rfl⟩ := asTup_eq h1
        simp only [Bool.and_eq_true, Bool.not_eq_true'] at h
        obtain ⟨h1, h2, h3, h4⟩ := h
        exact ps_unpF G.gs h1 h2 h3 (okE_ok e G.toGX h4).v
      · cases h
    · cases h
  | .sti a i e, W, X, x, G, h => by
    rw [okSt] at h
    split at h
    · rename_i t y hm
      obtain ⟨q, rfl⟩ := asAsg_eq hm
      split at h
      · rename_i a' i' h1
        obtain ⟨_, rfl⟩ := asSub_eq h1
        simp only [Bool.and_eq_true, Bool.not_eq_true'] at h
        obtain ⟨h1, h2, h3, h4, h5⟩ := h
        exact ps_stiF G.gs h1 h2 (okE_ok a G.toGX h3).v (okE_ok i G.toGX h4).v (okE_ok e G.toGX h5).v
      · cases h
    · cases h
  | .aug i op e, W, X, x, G, h => by
    rw [okSt] at h
    split at h
    · rename_i t o y hm
      obtain ⟨q, rfl⟩ := asAug_eq hm
      split at h
      · rename_i m h1
        obtain ⟨_, rfl⟩ := asName_eq h1
        simp only [Bool.and_eq_true, decide_eq_true_eq] at h
        obtain ⟨h1, h2, h3, h4⟩ := h
        exact ps_augF G.gs h1 h2 h3 (okE_ok e G.toGX h4).v
      · cases h
    · cases h
  | .agi a i op e, W, X, x, G, h => by
    rw [okSt] at h
    split at h
    · rename_i t o y hm
      obtain ⟨q, rfl⟩ := asAug_eq hm
      split at h
      · rename_i a' i' h1
        obtain ⟨_, rfl⟩ := asSub_eq h1
        simp only [Bool.and_eq_true, Bool.not_eq_true'] at h
        obtain ⟨h1, h2, h3, h4, h5⟩ := h
        exact ps_agiF G.gs h1 h2 (okE_ok a G.toGX h3).v (okE_ok i G.toGX h4).v (okE_ok e G.toGX h5).v
      · cases h
    · cases h
  | .exp e, W, X, x, G, h => by
    rw [okSt] at h
    split at h
    · rename_i y hm
      obtain ⟨q, rfl⟩ := asExp_eq hm
      simp only [Bool.and_eq_true, Bool.not_eq_true'] at h
      exact ps_expF G.gs h.1 (okE_ok e G.toGX h.2).v
    · cases h
  | .ret e, W, X, x, G, h => by
    rw [okSt] at h
    split at h
    · rename_i y hm
      obtain ⟨q, rfl⟩ := asRet_eq hm
      exact ps_retF (okE_ok e G.toGX h).v
    · rename_i hm
      obtain ⟨q, rfl⟩ := asRet_eq hm
      rw [isKnN_eq h]
      exact ps_retN0
    · cases h
  | .ife t a b, W, X, x, G, h => by
    rw [okSt] at h
    split at h
    · rename_i t' a' b' hm
      obtain ⟨q, rfl⟩ := asIfS_eq hm
      simp only [Bool.and_eq_true] at h
      exact ps_ifF (okE_ok t G.toGX h.1).t (okSts_ok a G h.2.1) (okSts_ok b G h.2.2)
    · cases h
  | .for_ tg tp s b, W, X, x, G, h => by
    rw [okSt] at h
    split at h
    · rename_i t' i' b' hm
      obtain ⟨q, rfl⟩ := asFor_eq hm
      simp only [Bool.and_eq_true] at h
      obtain ⟨h1, h2, h3, h4⟩ := h
      exact ps_forF G.gs h1 h2 (okS_ok s G.toGX h3) (okSts_ok b G h4)
    · cases h
  | .whl t b, W, X, x, G, h => by
    rw [okSt] at h
    split at h
    · rename_i t' b' hm
      obtain ⟨q, rfl⟩ := asWhl_eq hm
      simp only [Bool.and_eq_true] at h
      exact ps_whlF G.gs (okE_ok t G.toGX h.1).t (okSts_ok b G h.2)
    · cases h
  | .brk, W, X, x, G, h => by
    rw [okSt] at h
    obtain ⟨q, rfl⟩ := isBrk_eq h
    exact ps_brkF
  | .cnt, W, X, x, G, h => by
    rw [okSt] at h
    obtain ⟨q, rfl⟩ := isCnt_eq h
    exact ps_cntF
  | .pas, W, X, x, G, h => by
    rw [okSt] at h
    rcases isPas_eq h with ⟨q, rfl⟩ | ⟨_, _, _, _, rfl⟩
    · exact ps_pasF
    · exact ps_docF
  | .rai k e, W, X, x, G, h => by
    rw [okSt] at h
    split at h
    · rename_i m y hm
      obtain ⟨_, _, _, rfl⟩ := asRai_eq hm
      simp only [Bool.and_eq_true, Bool.not_eq_true', decide_eq_true_eq] at h
      obtain ⟨h1, h2, h3, h4, h5⟩ := h
      exact ps_raiF G.gs h1 h2 h3 (okE_ok e G.toGX h5).v h4
    · cases h
  | .tri b cs no i h', W, X, x, G, h => by
    rw [okSt] at h
    split at h
    · rename_i j b' m0 m y m' hj hm
      have := keepOf_eq hj
      subst this
      obtain ⟨_, _, _, _, _, _, rfl⟩ := asTry_eq hm
      simp only [Bool.and_eq_true, Bool.not_eq_true', decide_eq_true_eq] at h
      obtain ⟨h1, h2, h3, h4, h5, h6, h7, h8, h9, h10⟩ := h
      subst h1
      obtain ⟨g, _, h10⟩ := List.any_eq_true.mp h10
      simp only [Bool.and_eq_true, decide_eq_true_eq, List.all_eq_true] at h10
      obtain ⟨hg, hcs, hno⟩ := h10
      have hgl : g < T.exc.length := (List.getElem?_eq_some_iff.mp hg).1
      obtain ⟨l1, l2⟩ := locB_ok G.toGX.sx h5
      refine imp_s (ps_tryKeep (W := W) (cl := .ref (Glo.cl g)) (i := i) (j := j) (tb := fun W' => stsT C W' c b) G.stk G.frm (by rw [G.N]; exact G.nd) (by rw [G.N]; exact h2) (by show X.env.scope.names.lookup m = _; rw [G.sc]; exact h3) (by rw [G.N]; exact h4) l1 l2
        (by rw [G.N]; exact (List.getElem?_eq_some_iff.mp h2).1) (okNm_ok h6).1 (okNm_ok h6).2.1 ⟨gloB_ok (by rw [G.sc]; exact h7), (okNm_ok h8).1, .inl (G.exc g _ hg).1⟩ G.tk (fun W' pn xe tk' own' => okSts_ok b (G.tr tk' own') h9)) fun D σ H ⟨F, ρ, hs, hl, w⟩ => ⟨F, ρ, hs, hl, ?_⟩
      rw [ex] at w
      cases hr : exs c b ρ F.st with
      | nx ρ1 st => rw [hr] at w; exact w
      | bk ρ1 st => rw [hr] at w; exact w
      | ct ρ1 st => rw [hr] at w; exact w
      | rt d st => rw [hr] at w; exact w
      | bad => rw [hr] at w; exact w
      | exc k d ρ1 st =>
        rw [hr] at w
        intro F' H' σ' dx v est x s' l' hdx hun hn hrep
        have w : AftE C W F H (if cs.contains k = true then hnd (.keep j) i k d ρ1 st else if no.contains k = true then .exc k d ρ1 st else .bad) D := w
        by_cases hc : cs.contains k = true
        · rw [if_pos hc] at w
          have hk := hcs k (by simpa using hc)
          simp only [Bool.and_eq_true, Bool.or_eq_true, decide_eq_true_eq] at hk
          obtain ⟨hk1, hk2⟩ := hk
          obtain ⟨_, hC, _⟩ := G.exc k _ (List.getElem?_eq_getElem hk1)
          refine ⟨true, ?_, fun _ => ⟨Glo.cl k, dx, by rw [hC], rfl, fun a ha => ?_⟩, fun z => nomatch z⟩
          · rw [hC, G.exm k g hk1 hgl]
            rcases hk2 with e | e <;> simp [e]
          · have w : AftE C W F H (if (decide (i < ρ1.length) && decide (j < ρ1.length) && decide (i ≠ j)) = true then .nx ((ρ1.set j (some (.exv k d))).set i none) st else .bad) D := w
            split at w
            · rename_i e
              simp only [Bool.and_eq_true, decide_eq_true_eq] at e
              exact w F' _ _ est (x.trans (Ext.fresh F' _ ha)) (s'.fresh _ ha) (slo_keep (by rw [G.nx]; exact hk1) l' s' ha hdx hun hrep e.1.2)
            · exact w.elim
        · rw [if_neg hc] at w
          by_cases hc2 : no.contains k = true
          · rw [if_pos hc2] at w
            have hk := hno k (by simpa using hc2)
            simp only [Bool.and_eq_true, Bool.not_eq_true', Bool.or_eq_false_iff, decide_eq_true_eq, decide_eq_false_iff_not] at hk
            obtain ⟨hk1, hk2, hk3⟩ := hk
            obtain ⟨_, hC, _⟩ := G.exc k _ (List.getElem?_eq_getElem hk1)
            exact ⟨false, by rw [hC, G.exm k g hk1 hgl]; simp [hk2, hk3], (fun z => nomatch z), fun _ => w F' H' σ' dx v est x s' l' hdx hun hn hrep⟩
          · rw [if_neg hc2] at w
            exact w.elim
    · cases h
theorem okSts_ok : ∀ (ss : Sms) {W : WX} {X : Cx} {xs : List Stmt}, GT T C W c n se X → okSts T se ss xs = true → PSs X xs (stsT C W c ss)
  | .nil, W, X, xs, G, h => by
    rw [okSts] at h
    cases xs with
    | nil => exact pss_nilF
    | cons _ _ => cases h
  | .cons s ss, W, X, xs, G, h => by
    cases xs with
    | nil => rw [okSts] at h; cases h
    | cons x r =>
      rw [okSts, Bool.and_eq_true] at h
      exact pss_consF (okSt_ok s G h.1) (okSts_ok ss G h.2)
end
end
end MP
end
section
set_option maxRecDepth 100000
set_option maxHeartbeats 8000000
/-! MPFn: every def of the table keeps its promise. -/
namespace MP
open PySem L2 PySem.Spec PyProof.Rows
variable [Glo]
/-- a def by its body, where no repr of a list is under way -/
theorem fnG_of {P : Program} {w : World} {K : PySem.W.Frag} {mg : Str → Option Value} {base : Heap} {n : Nat} {f : Addr} {x qual : Str} {pr : Arguments} {b : List Stmt} {sc : Scope} {N ps : List Str} {dvs : List V} {kws : List (Str × V)} {fd : FuncData} {sp : Sp}
    (D : FunD K x qual pr b sc dvs kws f fd) (S : FnScope N ps sc) (hw : ∀ xs H Q E, sp xs H Q E → xs.length = ps.length)
    (hb : ∀ (cd : Value) (A : Around) (up : List Env) (s : Shared) (H : Hp) (xs : List V) (Q : VK) (E : XK), A.guards = some [] → Room n (A.deeper (envOfC qual sc s.heap.objs.size f cd)) → sp xs H Q E →
      ∃ t, PSs (cxOf (L2.CX P w) P w K mg base N qual sc f cd A up s H E) b t ∧ t { nx := fun _ H' => Q .non H', rt := Q } (start N xs) H) : FnG P w K mg base (n + 1) f fd ps sp := by
  obtain ⟨oc, od, dV, kV, dc, pm, an, cd, ct, os, rfl, lk, hcd, _, _⟩ := D.ex
  refine ⟨hw, fun A up s H args us xs Q E hg hr he hbi r hsp => ?_⟩
  have hlen := hw _ _ _ _ hsp
  have kin : K.In s.heap := he.mod.kin.keeps fun a o e => (he.bs a o e).1
  have nol : s.heap.NoLimit := he.mod.nolimit.keeps fun a o e => (he.bs a o e).1
  have kinds : ∀ z ∈ ps.zip us, sc.names.lookup z.1 = some .local ∨ (sc.names.lookup z.1 = some .cell ∧ ((cellsFrom (s.heap.objs.size + 1) sc.names []).lookup z.1).isSome = true) := by
    rintro ⟨m, v⟩ hz
    exact (S.par m (List.of_mem_zip hz).1).imp id fun q => ⟨q, PySem.W.cellsFrom_some _ _ _ (.inl q)⟩
  refine codeAny_call_function hr.depth (kin _ _ lk) rfl S.co S.gen rfl (PySem.W.codeRec_of kin hcd) (hbi _ _ _ _ (wpAny_newFunctionEnv_cells S.kind kinds fun env eq s1 ic => ?_))
  subst eq
  refine ⟨nol.keeps ic.toInCall.keep, codeAny_func ?_⟩
  obtain ⟨t, ht, hq⟩ := hb cd A up s H xs Q E hg (hr.deeper _) hsp
  have I0 : L2.Inv (cxOf (L2.CX P w) P w K mg base N qual sc f cd A up s H E) [] (start N xs) H s1 := inv_start S hr.hd he hlen r ic
  refine wpAny_mono (ht.run [] s1 (start N xs) H _ I0 hq) (fun fl s2 z => ?_) fun _ _ z => z
  cases fl with
  | next =>
    obtain ⟨_, H2, J, q⟩ := z
    exact ⟨.non, H2, J.os, J.bare, J.base, J.hok, rfl, q⟩
  | ret u =>
    obtain ⟨v, _, H2, J, rv, q⟩ := z
    exact ⟨v, H2, J.os, J.bare, J.base, J.hok, rv, q⟩
  | brk =>
    obtain ⟨_, _, _, q⟩ := z
    exact q.elim
  | cont =>
    obtain ⟨_, _, _, q⟩ := z
    exact q.elim
/-- what the head tells of the module, by the table -/
structure Md (T : Tab) (P : Nat → Option Fn) (con : Nat → Option D) (prog : Program) (K : PySem.W.Frag) (mg : Str → Option Value) : Prop where
  bl : ∀ x, x ∈ bnames → mg x = none
  con : ∀ (g : Nat) (x : Str) (d : D), T.con[g]? = some x → con g = some d → ∃ u v, mg x = some u ∧ RelV v u ∧ ∀ F H, Rep F H d v
  fns : ∀ (f : Nat) (x : Str), T.fns[f]? = some x → mg x = some (.ref (Glo.fn f)) ∧ ∃ (fn : Fn) (fd : FuncData) (qual : Str) (pr : Arguments) (b : List Stmt) (sc : Scope) (N ps : List Str) (dvs : List V) (kws : List (Str × V)),
    P f = some fn ∧ FunD K x qual pr b sc dvs kws (Glo.fn f) fd ∧ FnScope N ps sc ∧ ps.length = fn.ar ∧ N.length = fn.sl ∧ okSts T ⟨N, sc, fun _ => true⟩ fn.body b = true ∧ Binds K fd ps [] ∧ ∀ m ks ix, (f, m, ks, ix) ∈ T.kws → KB K fd ps m ks ix
  nx : Glo.nx = T.exc.length
  exc : ∀ (g : Nat) (x : Str), T.exc[g]? = some x → mg x = some (.ref (Glo.cl g)) ∧ ExF K (Glo.cl g)
  exk : ∀ g k, g < T.exc.length → k < T.exc.length → PySem.W.kitOne K (.ref (Glo.cl g)) (.ref (Glo.cl k)) = some (decide (g = k) || decide (k = 0))
  sp : PySem.W.specialIn K (.builtin "object.__class__") "__get__" = some (some (.builtin "getset_descriptor.__get__")) ∧ PySem.W.takesIn K (.builtin "object.__class__") = some true
  hol : ∀ (k : Nat) (x : Str), T.exc[k]? = some x → HoleC prog K (Glo.cl k)
  sup : mg "super" = none
  exm : ∀ g k, g < T.exc.length → k < T.exc.length → PySem.W.exmOne K (.ref (Glo.cl g)) (.ref (Glo.cl k)) = some (decide (g = k) || decide (k = 0))
section
variable {T : Tab} {P : Nat → Option Fn} {con : Nat → Option D} {wl : Nat} {prog : Program} {w : World} {K : PySem.W.Frag} {mg : Str → Option Value} {base : Heap}
/-- what a call of a def may lean on, n calls deep -/
def cxt (T : Tab) (P : Nat → Option Fn) (con : Nat → Option D) (wl n : Nat) : Cxt := ⟨run P con wl T.fns.length n, con, wl, T.fns.length⟩
/-- all defs, n calls deep -/
def Dp (T : Tab) (P : Nat → Option Fn) (con : Nat → Option D) (wl : Nat) (prog : Program) (w : World) (K : PySem.W.Frag) (mg : Str → Option Value) (base : Heap) (n : Nat) : Prop :=
  ∀ (f : Nat) (x : Str), T.fns[f]? = some x → ∃ fd ps, FnG prog w K mg base n (Glo.fn f) fd ps (spF Glo.cl (cxt T P con wl n) f) ∧ Binds K fd ps [] ∧ ∀ m ks ix, (f, m, ks, ix) ∈ T.kws → KB K fd ps m ks ix
theorem gt_of (M : Md T P con prog K mg) {n : Nat} (h : Dp T P con wl prog w K mg base n) {N ps : List Str} {sc : Scope} {qual : Str} {f : Addr} {cd : Value} {A : Around} {up : List Env} {s : Shared} {H : Hp} {E : XK} (S : FnScope N ps sc) (hg : A.guards = some []) (hr : Room n (A.deeper (envOfC qual sc s.heap.objs.size f cd))) :
    GT T Glo.cl (fun cl d _ H' => E cl d H') (cxt T P con wl n) n ⟨N, sc, fun _ => true⟩ (cxOf (L2.CX prog w) prog w K mg base N qual sc f cd A up s H E) := by
  have tk : Takes (cxOf (L2.CX prog w) prog w K mg base N qual sc f cd A up s H E) (fun cl d _ H' => E cl d H') := takes_of rfl rfl rfl rfl
  exact {
    N := rfl
    nd := S.nd
    sc := rfl
    fn := fun _ _ => rfl
    calm := rfl
    gd := hg
    room := hr
    bl := M.bl
    con := M.con
    nf := rfl
    fns := fun i x e => by
      obtain ⟨h1, _, fd0, _, _, _, _, _, _, _, _, _, F0, _⟩ := M.fns i x e
      obtain ⟨fd, ps, h2, h3, h4⟩ := h i x e
      exact ⟨h1, F0.kp, fd, ps, h2, h3, h4⟩
    nx := M.nx
    exc := fun g x e => ⟨(M.exc g x e).1, rfl, (M.exc g x e).2⟩
    exk := M.exk
    sp := M.sp
    ps := fun σ => passAt tk σ
    tk := tk
    own := passes_of rfl
    stk := rfl
    frm := rfl
    kd := S.kind
    hol := M.hol
    sup := M.sup
    exm := M.exm }
theorem slo_start {F : Fr} {H : Hp} {ds : List D} {vs : List V} {N : List Str} {m : Nat} (hm : N.length = m) (r : Reps F H ds vs) : Slo F H (ds.map some ++ List.replicate (m - ds.length) none) (start N vs) := by
  subst hm
  unfold L2.start
  refine ⟨by simp [r.length], fun i d e => ?_⟩
  by_cases hi : i < ds.length
  · rw [List.getElem?_append_left (by simpa using hi), List.getElem?_map] at e
    cases h : ds[i]? with
    | none => rw [h] at e; cases e
    | some d' =>
      rw [h] at e
      cases e
      obtain ⟨v, e1, e2⟩ := r.get h
      refine ⟨v, ?_, e2⟩
      rw [List.getElem?_append_left (by rw [List.length_map, ← r.length]; exact hi), List.getElem?_map, e1]
      rfl
  · rw [List.getElem?_append_right (by simpa using hi), List.getElem?_replicate] at e
    split at e <;> cases e
theorem dp_all (M : Md T P con prog K mg) : ∀ n, Dp T P con wl prog w K mg base n
  | 0 => fun f x e => by
    obtain ⟨_, fn, fd, _, _, _, _, _, ps, _, _, _, _, _, _, _, _, hB, hK⟩ := M.fns f x e
    have no : ∀ xs H Q E, ¬ spF Glo.cl (cxt T P con wl 0) f xs H Q E := fun xs H Q E ⟨F, ds, _, _, z⟩ => z
    exact ⟨fd, ps, ⟨fun xs H Q E z => (no _ _ _ _ z).elim, fun A up s H args us xs Q E _ _ _ _ _ z => (no _ _ _ _ z).elim⟩, hB, hK⟩
  | n + 1 => fun f x e => by
    obtain ⟨_, fn, fd, qual, pr, b, sc, N, ps, dvs, kws, hP, D, S, hps, hN, hok, hB, hK⟩ := M.fns f x e
    have ih := dp_all M n
    have key : ∀ {F : Fr} {ds : List MP.D}, (cxt T P con wl (n + 1)).cal f ds F.st = run1 (cxt T P con wl n) fn ds F.st := fun {F ds} => by
      show run P con wl T.fns.length (n + 1) f ds F.st = _
      rw [run, hP]
      rfl
    refine ⟨fd, ps, fnG_of D S (fun xs H Q E ⟨F, ds, hs, r, q⟩ => ?_) (fun cd A up s H xs Q E hg hr ⟨F, ds, hs, r, q⟩ => ?_), hB, hK⟩
    · rw [key] at q
      unfold run1 at q
      split at q
      · rw [← r.length, hps]
        assumption
      · exact q.elim
    · rw [key] at q
      unfold run1 at q
      split at q
      · refine ⟨_, okSts_ok fn.body (gt_of M ih S hg hr) hok, F, _, hs, slo_start hN r, ?_⟩
        cases hx : exs (cxt T P con wl n) fn.body (ds.map some ++ List.replicate (fn.sl - ds.length) none) F.st with
        | nx ρ st =>
          rw [hx] at q
          exact fun F' H' σ' e x s' l' => q F' H' .non e x s' rfl
        | rt d st =>
          rw [hx] at q
          exact fun F' H' v e x s' l' => q F' H' v e x s' l'
        | exc k d ρ st =>
          rw [hx] at q
          exact fun F' H' σ' dx v e x s' l' h1 h2 h3 h4 => q F' H' dx v e x s' h1 h2 h3 h4
        | bk ρ st => rw [hx] at q; exact q.elim
        | ct ρ st => rw [hx] at q; exact q.elim
        | bad => rw [hx] at q; exact q.elim
      · exact q.elim
end
end MP
end
section
set_option maxRecDepth 100000
set_option maxHeartbeats 4000000
/-! MPHead: what the head tells, read by a look. -/
namespace MP
open PySem PySem.W PySem.Calls PyProof.Rows PySem.HandSPX L2
/-! ### the text of __init__ -/
def asInit : FuncBody → Option (List Pos)
  | .stmts [.Expr (.Call (.Attribute (.Call (.Name s p0) [] [] p1) i p2) [.Name v p3] [] p4) p5, .Assign [.Attribute (.Name sf p6) v2 p7] (.Name v3 p8) p9] =>
    if s = "super" ∧ i = "__init__" ∧ v = "value" ∧ sf = "self" ∧ v2 = "value" ∧ v3 = "value" then some [p0, p1, p2, p3, p4, p5, p6, p7, p8, p9] else none
  | _ => none
theorem asInit_eq {b : FuncBody} {p : List Pos} (h : asInit b = some p) : b = .stmts (initBody p) := by
  unfold asInit at h
  split at h
  · split at h
    · rename_i e
      obtain ⟨rfl, rfl, rfl, rfl, rfl, rfl⟩ := e
      cases h
      rfl
    · cases h
  · cases h
def initArgs : Arguments → Bool
  | ⟨[], [⟨s, _, _⟩, ⟨v, _, _⟩], none, [], [], none, [_]⟩ => decide (s = ("self" : Str)) && decide (v = ("value" : Str))
  | _ => false
theorem initArgs_eq {a : Arguments} (h : initArgs a = true) : ∃ a1 p1 a2 p2 d, a = ⟨[], [⟨"self", a1, p1⟩, ⟨"value", a2, p2⟩], none, [], [], none, [d]⟩ := by
  unfold initArgs at h
  split at h
  · rw [Bool.and_eq_true, decide_eq_true_eq, decide_eq_true_eq] at h
    obtain ⟨rfl, rfl⟩ := h
    exact ⟨_, _, _, _, _, rfl⟩
  · cases h
def oneDflt (K : Frag) (v : Value) : Bool := match v with
  | .ref T => (match K.lookup T with
    | some ⟨_, _, .seq its _, _⟩ => (match its.toList with
      | [_] => true
      | _ => false)
    | _ => false)
  | _ => false
theorem oneDflt_eq {K : Frag} {v : Value} (h : oneDflt K v = true) : ∃ T o d n, v = .ref T ∧ K.lookup T = some o ∧ o.data = .seq #[d] n := by
  unfold oneDflt at h
  split at h
  · split at h
    · rename_i e
      split at h
      · rename_i its m _ _ d hd
        have e2 : its = #[d] := by rw [← Array.toArray_toList (xs := its), hd]
        rw [e2] at e
        exact ⟨_, _, d, m, rfl, e, rfl⟩
      · cases h
    · cases h
  · cases h
theorem init_binds {K : Frag} {fd : FuncData} (h1 : initArgs fd.params = true) (h2 : oneDflt K fd.defaults = true) (s : Shared) (a b : Value) (X : K.In s.heap) : BindsTo s fd ⟨[a, b], []⟩ [("self", a), ("value", b)] := by
  obtain ⟨a1, p1, a2, p2, d, ea⟩ := initArgs_eq h1
  obtain ⟨T, o, dv, m, eT, lT, oT⟩ := oneDflt_eq h2
  refine BindsTo.of_looks fun M => ?_
  obtain ⟨n1, n2, n3, n4, n5, n6, n7, n8, n9, n10, n11, n12, n13, n14, n15⟩ := fd
  simp only at ea eT
  subst ea eT
  have : ∃ k, bindArgs ⟨n1, n2, ⟨[], [⟨"self", a1, p1⟩, ⟨"value", a2, p2⟩], none, [], [], none, [d]⟩, n4, n5, n6, n7, .ref T, n9, n10, n11, n12, n13, n14, n15⟩ ⟨[a, b], []⟩ = seqItems? (.ref T) >>= k ∧ k (some #[dv]) = (pure [(("self" : Str), a), (("value" : Str), b)] : Sem (List (Str × Value))) := ⟨_, rfl, by with_unfolding_all rfl⟩
  obtain ⟨k, e1, e2⟩ := this
  rw [e1]
  exact looks_items X lT oT (.of_pure e2)
/-! ### code, closure -/
def codeB (K : Frag) (file q : Str) : Value → Bool
  | .ref cd => (match K.lookup cd with
    | some ⟨_, _, .fields vs, _⟩ => (match (vs[1]? : Option Value), (vs[2]? : Option Value) with
      | some (Value.str q' _), some (Value.str fl _) => decide (q' = q) && (file == fl)
      | _, _ => false)
    | _ => false)
  | _ => false
theorem codeB_eq {K : Frag} {file q : Str} {v : Value} (h : codeB K file q v = true) : ∃ cd oc od vs fl tf osl tq, v = .ref cd ∧ K.lookup cd = some ⟨oc, od, .fields vs, osl⟩ ∧ vs[1]? = some (.str q tq) ∧ vs[2]? = some (.str fl tf) ∧ (file == fl) = true := by
  unfold codeB at h
  split at h
  · split at h
    · rename_i e
      split at h
      · rename_i e1 e2
        rw [Bool.and_eq_true, decide_eq_true_eq] at h
        obtain ⟨rfl, h2⟩ := h
        exact ⟨_, _, _, _, _, _, _, _, rfl, e, e1, e2, h2⟩
      · cases h
    · cases h
  · cases h
def closB (K : Frag) (C : Addr) : List (Str × Addr) → Bool
  | [(n, cc)] => decide (n = ("__class__" : Str)) && (match K.lookup cc with
    | some ⟨_, _, .cell (some (.ref D)), _⟩ => (clsIn K D).isSome && (decide (mroIn K C (.ref D) = some true) && decide (ks_superIn K C D "__init__" = some (some (.builtin "ValueError.__init__"))))
    | _ => false)
  | _ => false
theorem closB_eq {K : Frag} {C : Addr} {l : List (Str × Addr)} (h : closB K C l = true) : ∃ cc D oc od osl cdD, l = [(("__class__" : Str), cc)] ∧ K.lookup cc = some ⟨oc, od, .cell (some (.ref D)), osl⟩ ∧ clsIn K D = some cdD ∧ mroIn K C (.ref D) = some true ∧ ks_superIn K C D "__init__" = some (some (.builtin "ValueError.__init__")) := by
  unfold closB at h
  split at h
  · rw [Bool.and_eq_true, decide_eq_true_eq] at h
    obtain ⟨rfl, h⟩ := h
    split at h
    · rename_i e
      simp only [Bool.and_eq_true, decide_eq_true_eq] at h
      obtain ⟨h1, h2, h3⟩ := h
      obtain ⟨cdD, e1⟩ := Option.isSome_iff_exists.mp h1
      exact ⟨_, _, _, _, _, cdD, rfl, e, e1, h2, h3⟩
    · cases h
  · cases h
def initScB (sc : Scope) : Bool := decide (sc.kind = .function) && (!sc.isCoroutine && (!sc.isGenerator && ((sc.names.all fun x => !decide (x.2 = .cell)) && (decide (sc.names.lookup ("self" : Str) = some .local) && (decide (sc.names.lookup ("value" : Str) = some .local) &&
  (decide (sc.names.lookup ("super" : Str) = some .globalImplicit) && decide (sc.names.lookup ("__class__" : Str) = some .free)))))))
def initFB (file : Str) (K : Frag) (C : Addr) (fd : FuncData) : Bool := initScB fd.scope && ((match asInit fd.body with
  | some p => (p.getD 2 default).endLine == (p.getD 4 default).line
  | none => false) && (initArgs fd.params && (oneDflt K fd.defaults && (decide (fd.globals = mainGlobals) && (decide (fd.builtins = builtinsNs) && (codeB K file fd.qualname fd.code && (closB K C fd.closure &&
    (decide (nsIn K cStatics "thirdparty.any" = some none) && decide (subIn K (.ref C) (.type "ValueError") = some true)))))))))
theorem initF_by {prog : Program} {K : Frag} {C f : Addr} {fd : FuncData} (lk : ∃ oc od osl, K.lookup f = some ⟨oc, od, .func fd, osl⟩) (ht : (prog.main.scope.names.lookup ("super" : Str)).isSome = false) (h : initFB prog.main.file K C fd = true) : InitF prog K C f fd := by
  unfold initFB initScB at h
  simp only [Bool.and_eq_true, Bool.not_eq_true', decide_eq_true_eq, List.all_eq_true, decide_eq_false_iff_not] at h
  obtain ⟨⟨s1, s2, s3, s4, s5, s6, s7, s8⟩, h2, h3, h4, h5, h6, h7, h8, h9, h10⟩ := h
  obtain ⟨a1, p1, a2, p2, d, ea⟩ := initArgs_eq h3
  refine ⟨lk, ?_, s1, s2, s3, s4, s5, s6, s7, s8, ⟨⟨"self", a1, p1⟩, by rw [ea]; rfl, rfl⟩, h5, h6, codeB_eq h7, closB_eq h8, ht, h9, h10, fun s a b X => init_binds h3 h4 s a b X⟩
  split at h2
  · rename_i p e
    exact ⟨p, asInit_eq e, h2⟩
  · cases h2
/-! ### a class -/
def fnAt (K : Frag) (f : Addr) : Option FuncData := match K.lookup f with
  | some ⟨_, _, .func fd, _⟩ => some fd
  | _ => none
theorem fnAt_eq {K : Frag} {f : Addr} {fd : FuncData} (h : fnAt K f = some fd) : ∃ oc od osl, K.lookup f = some ⟨oc, od, .func fd, osl⟩ := by
  unfold fnAt at h
  split at h
  · rename_i e
    cases h
    exact ⟨_, _, _, e⟩
  · cases h
def veCls (K : Frag) (C : Addr) : Bool := match K.lookup C with
  | some ⟨.type t, _, .cls cd, sl⟩ => decide (t = "type") && (match cd.mro, sl.toList with
    | .ref C' :: bm, [_, _, _, _, some (.builtin n), _] => decide (C' = C) && (decide (n = "ValueError.__new__") && (!cd.hasDel && (cd.hasDict && PySem.HandSPX.refsVE bm)))
    | _, _ => false)
  | _ => false
theorem veCls_eq {K : Frag} {C : Addr} (h : veCls K C = true) : ∃ nm q N bs bm sn sub ab col dd k0 k1 k2 k3 k5, K.lookup C = some (excClassObj nm q C N bs bm true sn sub ab col dd k0 k1 k2 k3 k5 "ValueError.__new__") ∧ PySem.HandSPX.refsVE bm = true := by
  unfold veCls at h
  split at h
  · rename_i t dd cd sl ho
    rw [Bool.and_eq_true, decide_eq_true_eq] at h
    obtain ⟨rfl, h⟩ := h
    split at h
    · rename_i C' bm k0 k1 k2 k3 n k5 hm hs
      simp only [Bool.and_eq_true, Bool.not_eq_true', decide_eq_true_eq] at h
      obtain ⟨rfl, rfl, h1, h2, h3⟩ := h
      obtain ⟨nm, bs, mro, ns, q, hd, sn, sub, ab, col, del⟩ := cd
      dsimp only at hm h1 h2
      subst hm h1 h2
      have e : sl = #[k0, k1, k2, k3, some (.builtin "ValueError.__new__"), k5] := by rw [← Array.toArray_toList (xs := sl), hs]
      rw [e] at ho
      exact ⟨nm, q, ns, bs, bm, sn, sub, ab, col, dd, k0, k1, k2, k3, k5, ho, h3⟩
    · cases h
  · cases h
def holeB (file : Str) (K : Frag) (C : Addr) : Bool := veCls K C && (decide (findIn K (.ref C) "__setattr__" = some (some (.builtin "object.__setattr__"))) && (decide (subIn K (.ref C) (.type "BaseException") = some true) && (decide (typeIn K (.ref C) = some (.type "type")) && (keepIn K (.ref C) &&
  (decide (findIn K (.ref C) "value" = some none) && (match findIn K (.ref C) "__init__" with
    | some (some (.ref f)) => decide (typeIn K (.ref f) = some (.type "function")) && (match fnAt K f with
      | some fd => initFB file K C fd
      | none => false)
    | _ => false))))))
theorem hole_by {prog : Program} {K : Frag} {C : Addr} (ht : (prog.main.scope.names.lookup ("super" : Str)).isSome = false) (h : holeB prog.main.file K C = true) : HoleC prog K C := by
  unfold holeB at h
  simp only [Bool.and_eq_true, decide_eq_true_eq] at h
  obtain ⟨h1, h2, h3, h4, h5, h6, h7⟩ := h
  split at h7
  · rename_i f e
    rw [Bool.and_eq_true, decide_eq_true_eq] at h7
    obtain ⟨h7, h8⟩ := h7
    split at h8
    · rename_i fd e2
      exact ⟨⟨veCls_eq h1, h2, h3, h4, h5⟩, ⟨f, fd, e, h7, initF_by (fnAt_eq e2) ht h8⟩, h6⟩
    · cases h8
  · cases h7
def exfB (K : Frag) (C : Addr) : Bool := (clsIn K C).isSome && (decide (findIn K (.ref C) "__getattribute__" = some (some (.builtin "BaseException.__getattribute__"))) && (decide (findIn K (.ref C) "__getattr__" = some none) && (decide (subIn K (.ref C) (.type "BaseException") = some true) &&
  (decide (findIn K (.ref C) "__class__" = some (some (.builtin "object.__class__"))) && (decide (mroIn K C (.type "object") = some true) && (hasDictIn K C && decide (findIn K (.ref C) "value" = some none)))))))
theorem exf_by {K : Frag} {C : Addr} (h : exfB K C = true) : ExF K C := by
  unfold exfB at h
  simp only [Bool.and_eq_true, decide_eq_true_eq] at h
  obtain ⟨h1, h2, h3, h4, h5, h6, h7, h8⟩ := h
  exact ⟨h1, h2, h3, h4, h5, h6, h7, h8⟩
/-- all that is to be known of the classes named xs -/
def clsB (file : Str) (xs : List Str) (K : Frag) : Bool := (xs.all fun x => (He.Fa.glo x).ok K && (holeB file K (He.ga K x) && exfB K (He.ga K x))) && (((List.range xs.length).all fun g => (List.range xs.length).all fun k =>
    decide (kitOne K (.ref (He.ga K (xs.getD g Str.empty))) (.ref (He.ga K (xs.getD k Str.empty))) = some (decide (g = k) || decide (k = 0))) && decide (exmOne K (.ref (He.ga K (xs.getD g Str.empty))) (.ref (He.ga K (xs.getD k Str.empty))) = some (decide (g = k) || decide (k = 0)))) &&
  (decide (specialIn K (.builtin "object.__class__") "__get__" = some (some (.builtin "getset_descriptor.__get__"))) && decide (takesIn K (.builtin "object.__class__") = some true)))
/-! ### the hook: no list of the module's -/
def isLst : Obj → Bool
  | ⟨.type t, _, .seq _ _, _⟩ => decide (t = "list")
  | _ => false
def asM (g : Addr → Option Obj) : Nat → List Addr
  | 0 => [mainGlobals, cStatics]
  | n + 1 => He.growD g (asM g n)
def frM (g : Addr → Option Obj) (as : List Addr) : Frag := (He.frG g as).filter fun q => !isLst q.2
theorem lookM {a : Addr} {o : Obj} : ∀ {l : List (Addr × Obj)}, l.lookup a = some o → (a, o) ∈ l
  | [], h => nomatch h
  | (b, u) :: r, h => by
    rw [List.lookup_cons] at h
    split at h
    · rename_i e
      cases h
      rw [beq_iff_eq.mp e]
      exact List.mem_cons_self
    · exact List.mem_cons_of_mem _ (lookM h)
theorem frM_at {g : Addr → Option Obj} {as : List Addr} {a : Addr} {o : Obj} (h : (frM g as).lookup a = some o) : g a = some o ∧ isLst o = false := by
  obtain ⟨h1, h2⟩ := List.mem_filter.mp (lookM h)
  unfold He.frG at h1
  obtain ⟨b, _, e⟩ := List.mem_filterMap.mp h1
  obtain ⟨u, e1, e2⟩ := Option.map_eq_some_iff.mp e
  cases e2
  exact ⟨e1, by simpa using h2⟩
structure SaysM (fa : List He.Fa) (fn : List He.DefD) (ex : Frag → Bool) (K : Frag) : Prop where
  d : He.SaysD fa fn K
  more : ex K = true
  nol : ∀ a o, K.lookup a = some o → isLst o = false
def obsM (n : Nat) (fa : List He.Fa) (fn : List He.DefD) (ex : Frag → Bool) (g : Addr → Option Obj) : He.AlD × Bool := (He.obsD fa fn (frM g (asM g n)), ex (frM g (asM g n)))
def hookM (n : Nat) (fa : List He.Fa) (fn : List He.DefD) (ex : Frag → Bool) : Hook where
  α := He.AlD × Bool
  obs := fun s => obsM n fa fn ex s.heap.get?
  val := fun _ => (He.valD fn, true)
  says := fun _ h => ∃ K : Frag, K.In h ∧ SaysM fa fn ex K
  of := fun _ s e => ⟨frM s.heap.get? (asM s.heap.get? n), fun _ _ q => (frM_at q).1, congrArg Prod.fst e, congrArg Prod.snd e, fun _ _ q => (frM_at q).2⟩
  keeps := fun _ _ _ ⟨K, hK, c⟩ k => ⟨K, Frag.In.keeps hK k, c⟩
theorem obsM_eq {n : Nat} {fa : List He.Fa} {fn : List He.DefD} {ex : Frag → Bool} {g : Addr → Option Obj} {s : Shared} (h : ∀ a, g a = s.heap.get? a) : obsM n fa fn ex g = (hookM n fa fn ex).obs s := by
  rw [show g = s.heap.get? from funext h]
  rfl
end MP
end
section
set_option maxRecDepth 100000
set_option maxHeartbeats 4000000
/-! MPEnd: a law's end. -/
namespace MP
open PySem PySem.W PySem.Calls PyProof.Rows L2
/-! ### the table -/
structure Ent where
  d : He.DefD
  N : List Str
  ps : List Str
  fn : Fn
def entB (T : Tab) (e : Ent) : Bool := C8.scC e.N e.ps e.d.scope && (decide (e.ps.length = e.fn.ar) && (decide (e.N.length = e.fn.sl) && okSts T ⟨e.N, e.d.scope, fun _ => true⟩ e.fn.body e.d.body))
def plainD (e : Ent) : Bool := decide (e.d.at_ = (e.d.name, none)) && (e.d.dfl.isEmpty && e.d.kwd.isEmpty)
@[reducible] def gloOf (K : Frag) (T : Tab) : Glo := ⟨fun i => He.ga K (T.fns.getD i Str.empty), fun i => He.ga K (T.exc.getD i Str.empty), T.exc.length⟩
def tabP (es : List Ent) : Nat → Option Fn := fun i => (es[i]?).map (·.fn)
/-- a call that gives all parameters binds them -/
def BindE (e : Ent) : Prop := ∀ (kV doc pm : Value) (an : Option Addr) (cdv ct : Value) (us : List Value), us.length = e.ps.length → bindArgs (fnOf e.d.name e.d.qual e.d.params e.d.body e.d.scope .none kV doc pm an cdv ct) ⟨us, []⟩ = pure (e.ps.zip us)
/-- .. with keywords -/
def BindK (e : Ent) (m : Nat) (ks : List Str) (ix : List Nat) : Prop := ∀ (kV doc pm : Value) (an : Option Addr) (cdv ct : Value) (us ws : List Value), us.length = m → ws.length = ks.length → ∃ zs, pick ix (us ++ ws) = some zs ∧ bindArgs (fnOf e.d.name e.d.qual e.d.params e.d.body e.d.scope .none kV doc pm an cdv ct) ⟨us, ks.zip ws⟩ = pure (e.ps.zip zs)
structure Given (es : List Ent) (T : Tab) (con : Nat → Option MP.D) (fa : List He.Fa) (prog : Program) : Prop where
  fns : T.fns = es.map fun e => e.d.name
  pl : es.all plainD = true
  ok : ∀ (i : Nat) (e : Ent), es[i]? = some e → entB T e = true
  bind : ∀ (i : Nat) (e : Ent), es[i]? = some e → BindE e
  kws : ∀ (i : Nat) (e : Ent) (m : Nat) (ks : List Str) (ix : List Nat), es[i]? = some e → (i, m, ks, ix) ∈ T.kws → BindK e m ks ix
  glo : ∀ e ∈ es, He.Fa.glo e.d.name ∈ fa
  free : ∀ x ∈ bnames, He.Fa.free x ∈ fa
  sup : He.Fa.free "super" ∈ fa
  con : ∀ (g : Nat) (x : Str) (d : D), T.con[g]? = some x → con g = some d → ∃ i, d = .int i ∧ He.Fa.int x i ∈ fa
  top : (prog.main.scope.names.lookup ("super" : Str)).isSome = false
theorem md_of {es : List Ent} {T : Tab} {con : Nat → Option D} {fa : List He.Fa} {prog : Program} {K : Frag} {h : Heap} {mg : Str → Option Value} (G : Given es T con fa prog) (X : K.In h) (N : h.Ns mainGlobals mg) (c : He.SaysD fa (es.map (·.d)) K) (hc : clsB prog.main.file T.exc K = true) :
    @Md (gloOf K T) T (tabP es) con prog K mg := by
  letI : Glo := gloOf K T
  have fact : ∀ {f : He.Fa}, f ∈ fa → f.ok K = true := fun {f} hf => by
    obtain ⟨i, hi, e⟩ := List.mem_iff_getElem.mp hf
    exact c.fact i (f := f) (by rw [List.getElem?_eq_getElem hi, e])
  unfold clsB at hc
  simp only [Bool.and_eq_true, List.all_eq_true, decide_eq_true_eq] at hc
  obtain ⟨h1, h2, h3, h4⟩ := hc
  have gd : ∀ {g : Nat} {x : Str}, T.exc[g]? = some x → T.exc.getD g Str.empty = x ∧ x ∈ T.exc ∧ g < T.exc.length := fun {g x} e => ⟨by rw [List.getD_eq_getElem?_getD, e]; rfl, List.mem_of_getElem? e, (List.getElem?_eq_some_iff.mp e).1⟩
  have cl : ∀ {g : Nat} {x : Str}, T.exc[g]? = some x → Glo.cl g = He.ga K x := fun {g x} e => congrArg (He.ga K) (gd e).1
  exact {
    bl := fun x hx => He.free_ok X N (fact (G.free x hx))
    con := fun g x d e q => by
      obtain ⟨i, rfl, hf⟩ := G.con g x d e q
      obtain ⟨t, ht⟩ := He.int_ok X N (fact hf)
      exact ⟨_, .int i, ht, ⟨t, rfl⟩, fun _ _ => rfl⟩
    fns := fun f x e => by
      rw [G.fns, List.getElem?_map] at e
      cases he : es[f]? with
      | none => rw [he] at e; cases e
      | some en =>
        rw [he] at e
        cases e
        have hm := List.mem_of_getElem? he
        have efn : Glo.fn f = He.ga K en.d.name := congrArg (He.ga K) (by rw [G.fns, List.getD_eq_getElem?_getD, List.getElem?_map, he]; rfl)
        obtain ⟨p1, p2⟩ := Bool.and_eq_true_iff.mp (List.all_eq_true.mp G.pl en hm)
        obtain ⟨p2, p3⟩ := Bool.and_eq_true_iff.mp p2
        have p1 := of_decide_eq_true p1
        have p2 := List.isEmpty_iff.mp p2
        have p3 := List.isEmpty_iff.mp p3
        obtain ⟨fd, F⟩ := c.def_ f (d := en.d) (by rw [List.getElem?_map, he]; rfl)
        have ea : He.fAd K en.d.at_ = He.ga K en.d.name := by rw [p1]; rfl
        have e1 : en.d.dvs K = [] := by unfold He.DefD.dvs; rw [p2]; rfl
        have e2 : en.d.kws K = [] := by unfold He.DefD.kws; rw [p3]; rfl
        rw [ea, e1, e2] at F
        have ok := G.ok f en he
        unfold entB at ok
        simp only [Bool.and_eq_true, decide_eq_true_eq] at ok
        obtain ⟨o1, o2, o3, o4⟩ := ok
        rw [efn]
        refine ⟨He.glo_ok X N (fact (G.glo en hm)), en.fn, fd, _, _, _, _, en.N, en.ps, _, _, by show (es[f]?).map (·.fn) = _; rw [he]; rfl, F, C8.fnScope_by o1, o2, o3, o4, F.bindsN (G.bind f en he), fun m ks ix hk => ?_⟩
        obtain ⟨oc, od, dV, kV, doc, pm, an, cdv, ct, osl, rfl, lk, hcd, hD, hK⟩ := F.ex
        rcases hD with ⟨_, rfl⟩ | ⟨z, _⟩
        · intro s us ws zs _ l1 l2 hp
          obtain ⟨zs', e3, e4⟩ := G.kws f en m ks ix he hk kV doc pm an cdv ct us ws l1 l2
          rw [hp] at e3
          cases e3
          exact BindsTo.of_looks fun M => by
            rw [e4]
            exact .of_pure rfl
        · exact absurd rfl z
    nx := rfl
    exc := fun g x e => by
      obtain ⟨k1, k2, k3⟩ := h1 x (gd e).2.1
      rw [cl e]
      exact ⟨He.glo_ok X N k1, exf_by k3⟩
    exk := fun g k hg hk => (h2 g (List.mem_range.mpr hg) k (List.mem_range.mpr hk)).1
    sp := ⟨h3, h4⟩
    hol := fun k x e => by
      obtain ⟨_, k2, _⟩ := h1 x (gd e).2.1
      rw [cl e]
      exact hole_by G.top k2
    sup := He.free_ok X N (fact G.sup)
    exm := fun g k hg hk => (h2 g (List.mem_range.mpr hg) k (List.mem_range.mpr hk)).2 }
/-! ### the law's call -/
theorem law_g {P : Program} {w : World} {K : Frag} {mg mb : Str → Option Value} {n : Nat} {fa a : Addr} {sp : Sp} {s : Shared} {us : List Value} {ns : List Int} (KX : K.In s.heap) (nol : ∀ b o, K.lookup b = some o → isLst o = false)
    (hm : s.heap.Ns mainGlobals mg) (hb : s.heap.Ns builtinsNs mb) (hbb : ∀ x : Str, x ≠ "__name__" → mb x = bootBuiltins x) (lim : s.heap.NoLimit) (hg : s.gens = #[]) (ha : s.heap.get? a = some { cls := .type "list", data := .seq us.toArray }) (hi : IntsAre us ns) (hl : ns.length ≤ sizeLine) (hr : Room n callerA)
    (F : ∀ base : Heap, ∃ fd ps, FnG P w K mg base n fa fd ps sp ∧ L2.Binds K fd ps []) (hsp : ∀ H o, H a = some (.frz o (.lst (ns.map V.int))) → sp [.ref a] H (fun v _ => v = .bl true) fun _ _ _ => False) :
    codeAny (model P w) callerA (.call (.ref fa) ⟨[.ref a], []⟩) (fun r s' => r = .ok (.ret (.bool true)) ∧ OldK s.heap s'.heap ∧ s'.os = s.os ∧ AllBare s'.gens) s := by
  obtain ⟨H, hH⟩ : ∃ H : Hp, H = fun b => if b = a then some (HO.frz { cls := .type "list", data := .seq us.toArray } (.lst (ns.map V.int))) else none := ⟨_, rfl⟩
  have Ha : H a = some (.frz { cls := .type "list", data := .seq us.toArray } (.lst (ns.map V.int))) := by rw [hH]; exact if_pos rfl
  have Hn : ∀ {b}, b ≠ a → H b = none := fun {b} hne => by rw [hH]; exact if_neg hne
  have bo : ∀ {b o}, b ≠ a → s.heap.get? b = some o → (hidT s.heap H).get? b = some o := fun {b o} hne e => hidT_get e (Hn hne)
  have dic : ∀ {b : Addr} {o : Obj} {es : Array DictEntry} {ep : Nat}, s.heap.get? b = some o → o.data = .dict es ep → b ≠ a := fun e d z => by
    subst z
    rw [ha] at e
    cases e
    cases d
  have ns : ∀ {b : Addr} {m : Str → Option Value}, s.heap.Ns b m → (hidT s.heap H).Ns b m := fun ⟨o, es, ep, e, d, r⟩ => ⟨o, es, ep, bo (dic e d) e, d, r⟩
  have KB : K.In (hidT s.heap H) := fun b o e => bo (fun z => by
    subst z
    have e1 := KX b o e
    rw [ha] at e1
    cases e1
    cases nol _ _ e) (KX b o e)
  have M : Mod K mg (hidT s.heap H) := ⟨KB, ns hm, ⟨mb, ns hb, hbb⟩, let ⟨mc, q1, q2⟩ := lim; ⟨mc, ns q1, q2⟩⟩
  have hok : HOk P w H s.heap := fun b u z => by
    by_cases hb : b = a
    · subst hb
      rw [Ha] at z
      cases z
      exact ⟨ha, by rw [List.length_map]; exact hl, us, _, vals_ints hi, ha⟩
    · rw [Hn hb] at z
      cases z
  have e0 : Env0 P w K mg (hidT s.heap H) callerA [] s H := ⟨rfl, M, fun b o e => of_hidT e, Nat.le_of_eq (hidT_size _ _), trivial, fun b hb => absurd (show b ∈ ([] : List Addr) from hb) (by simp), hok, .of_eq hg⟩
  obtain ⟨fd, ps, Fg, hB⟩ := F (hidT s.heap H)
  have hw := Fg.wide _ _ _ _ (hsp H _ Ha)
  have bd := hB s [.ref a] KX (by rw [List.append_nil]; exact hw)
  rw [List.append_nil] at bd
  refine codeAny_mono (Fg.goes callerA [] s H ⟨[.ref a], []⟩ [.ref a] [.ref a] _ _ rfl hr e0 bd (.cons rfl .nil) (hsp H _ Ha)) fun r s' z => ?_
  cases r with
  | error e =>
    obtain ⟨_, _, _, _, _, _, _, _, _, _, _, _, z⟩ := z
    exact z.elim
  | ok fl =>
    cases fl with
    | ret u =>
      obtain ⟨v, H', os, bare, un, hok', rv, q⟩ := z
      have q : v = .bl true := q
      subst q
      have rv : u = Value.bool true := rv
      subst rv
      refine ⟨rfl, OldK.of_keep fun b o e => ?_, os, bare⟩
      by_cases hb : b = a
      · subst hb
        have e1 := (hok' b _ (un.frzs b _ _ Ha)).1
        rw [ha] at e
        cases e
        exact e1
      · exact un.keep b o e (Hn hb) (by intro z; exact absurd (show b ∈ ([] : List Addr) from z) (by simp)) (by simp)
    | next => exact z.elim
    | brk => exact z.elim
    | cont => exact z.elim
/-- a law, its defs by the table; f: the law's def -/
theorem walk_g {l : OpenLaw} {m n k wl : Nat} {q : Program} {loose : List Str} {XP : (Str → Option Value) → Heap → Prop} {dr : DefRec} {es : List Ent} {T : Tab} {con : Nat → Option D} {fa : List He.Fa} {f : Nat} {el : Ent}
    (hm : l.most = some m) (hm2 : m ≤ sizeLine) (hdf : dr.params.defaults = []) (hr : Room n callerA) (G : Given es T con fa l.prog) (hf : es[f]? = some el) (hnm : dr.name = el.d.name)
    (law : ∀ ns : List Int, ns.length ≤ m → ∃ st, run (tabP es) con wl T.fns.length n f [.scr ns] [] = .ok (.bl true) st) :
    WalkO q loose XP (hookM k fa (es.map (·.d)) (clsB l.prog.main.file T.exc)).says l.row.toRowW dr [] (fun f vs => PySem.call f vs) := by
  refine Att.attach_call hm hdf fun w s₀ s mg mb ad o pm cd doc a us ns Gd Y ho hd hcd hmg hobj hints hlen hg => ?_
  obtain ⟨K, KX, c, hc, nol⟩ := Y
  letI : Glo := gloOf K T
  have M := md_of G KX Gd.T.g c hc
  have eT : T.fns[f]? = some el.d.name := by rw [G.fns, List.getElem?_map, hf]; rfl
  have efn : ad = Glo.fn f := by
    have e1 := (M.fns f _ eT).1
    rw [hnm, e1] at hmg
    cases hmg
    rfl
  subst efn
  refine law_g (sp := spF Glo.cl (cxt T (tabP es) con wl n) f) KX nol Gd.T.g Gd.T.b Gd.T.builtins Gd.T.nolimit hg hobj hints (Nat.le_trans hlen hm2) hr (fun base => ?_) fun H o hH => ?_
  · obtain ⟨fd, ps, h1, h2, _⟩ := dp_all (wl := wl) (w := w) (base := base) M n f _ eT
    exact ⟨fd, ps, h1, h2⟩
  · obtain ⟨st, e⟩ := law ns hlen
    refine ⟨⟨fun _ => 0, fun _ => False, []⟩, [.scr ns], ⟨fun k o e => (by simp at e), fun j k ⟨o, e, _⟩ => (by simp at e), fun k ⟨o, e, _⟩ => (by simp at e), fun a h => h.elim⟩, ⟨_, [], rfl, ⟨a, o, rfl, fun z => ?_, hH⟩, rfl⟩, ?_⟩
    · rcases z with z | ⟨k, ⟨o, e, _⟩, _⟩
      · exact z
      · simp at e
    · show Aft Rep Glo.cl _ _ H (run (tabP es) con wl T.fns.length n f [.scr ns] []) _
      rw [e]
      exact fun F' H' b _ _ _ z => z
end MP
end
section
/-! MPCon: the module's whole numbers. -/
namespace MP
open PySem
def conOf (nums : List (Str × Int)) : Nat → Option D := fun g => (nums[g]?).map fun q => .int q.2
end MP
end
section
set_option maxRecDepth 100000
set_option maxHeartbeats 4000000
/-! MPGiven: what a law's text gives. -/
namespace MP
open PySem PySem.W PySem.Calls PyProof.Rows L2
def faOf (es : List Ent) (exc : List Str) (nums : List (Str × Int)) : List He.Fa := (es.map fun e => .glo e.d.name) ++ ((exc.map .glo) ++ ((bnames.map .free) ++ ([.free "super"] ++ (nums.map fun q => .int q.1 q.2))))

theorem given_of {es : List Ent} {T : Tab} {nums : List (Str × Int)} {prog : Program} (h1 : T.fns = es.map fun e => e.d.name) (h2 : es.all plainD = true) (h3 : ∀ e ∈ es, entB T e = true) (h4 : ∀ e ∈ es, BindE e)
    (h5 : ∀ (i : Nat) (e : Ent) (m : Nat) (ks : List Str) (ix : List Nat), es[i]? = some e → (i, m, ks, ix) ∈ T.kws → BindK e m ks ix) (h6 : T.con = nums.map (·.1)) (h7 : (prog.main.scope.names.lookup ("super" : Str)).isSome = false) : Given es T (conOf nums) (faOf es T.exc nums) prog where
  fns := h1
  pl := h2
  ok := fun i e q => h3 e (List.mem_of_getElem? q)
  bind := fun i e q => h4 e (List.mem_of_getElem? q)
  kws := h5
  glo := fun e he => List.mem_append_left _ (List.mem_map.mpr ⟨e, he, rfl⟩)
  free := fun x hx => List.mem_append_right _ (List.mem_append_right _ (List.mem_append_left _ (List.mem_map.mpr ⟨x, hx, rfl⟩)))
  sup := List.mem_append_right _ (List.mem_append_right _ (List.mem_append_right _ (List.mem_append_left _ (List.mem_singleton.mpr rfl))))
  con := fun g x d e q => by
    rw [h6, List.getElem?_map] at e
    unfold conOf at q
    cases hq : nums[g]? with
    | none => rw [hq] at e; cases e
    | some p =>
      rw [hq] at e q
      cases e
      cases q
      exact ⟨p.2, rfl, List.mem_append_right _ (List.mem_append_right _ (List.mem_append_right _ (List.mem_append_right _ (List.mem_map.mpr ⟨p, List.mem_of_getElem? hq, rfl⟩))))⟩
  top := h7
end MP
end
section
set_option maxRecDepth 100000
set_option maxHeartbeats 0
namespace MP
namespace L
open PySem
abbrev f_is_whole : Nat := 0
abbrev f_is_lot_by : Nat := 1
abbrev f_is_within : Nat := 2
abbrev f_complex_of : Nat := 3
abbrev f_is_digits : Nat := 4
abbrev f_words_of : Nat := 5
abbrev f_lot_in : Nat := 6
abbrev f_many_in_words : Nat := 7
abbrev f_read_by : Nat := 8
abbrev f_read_complex : Nat := 9
abbrev f_wrong_line : Nat := 10
abbrev f__law_digits : Nat := 11
abbrev f__law_read : Nat := 12
abbrev f__law_texts : Nat := 13
abbrev f__law_rows : Nat := 14
abbrev f__law_joined : Nat := 15
abbrev f__law_refused : Nat := 16
abbrev f__law_is_number : Nat := 17
abbrev f__law_is_lot : Nat := 18
abbrev f__law_lot : Nat := 19
abbrev f__law_within : Nat := 20
abbrev f__law_complex : Nat := 21
abbrev f__law_body : Nat := 22
abbrev f__law_shuffled : Nat := 23
abbrev f__law_same : Nat := 24
abbrev f__law_purse : Nat := 25
abbrev f__law_draw : Nat := 26
abbrev f__law_pick : Nat := 27
abbrev f_law : Nat := 28
abbrev g_MOST_POINTS : Nat := 0
abbrev g_MOST_TOPS : Nat := 1
abbrev g_MOST_FIGURES : Nat := 2
abbrev x_HoleError : Nat := 0
abbrev x_InvalidText : Nat := 1
def nums : List (Str × Int) := [("MOST_POINTS", 7), ("MOST_TOPS", 20), ("MOST_FIGURES", 9)]
def b_is_whole : Sms := (.cons (.ret (.and (.blt (.isi .int) (.cons (.nm 0) .nil)) (.not (.blt (.isi .bool) (.cons (.nm 0) .nil))))) .nil)
def b_is_lot_by : Sms := (.cons (.ife (.or (.not (.blt (.isi .list) (.cons (.nm 1) .nil))) (.not (.blt .all (.cons (.lc (.and (.pur f_is_whole (.cons (.nm 2) .nil)) (.chn .le .lt (.kn (.int 0)) (.nm 2) (.nm 0))) [2] false (.lis (.nm 1)) .non [2]) .nil)))) (.cons (.ret (.kn (.bl false))) .nil) .nil) (.cons (.ret (.blt .all (.cons (.lc (.cmp .lt (.sub (.nm 1) (.bin .sub (.nm 3) (.kn (.int 1)))) (.sub (.nm 1) (.nm 3))) [3] false (.rg2 (.kn (.int 1)) (.blt .len (.cons (.nm 1) .nil))) .non [3]) .nil))) .nil))
def b_is_within : Sms := (.cons (.ret (.blt .all (.cons (.lc (.cmp .isin (.nm 2) (.nm 1)) [2] false (.lis (.nm 0)) .non [2]) .nil))) .nil)
def l_complex_of_0 : Sms := (.cons (.ife (.and (.cmp .ne (.nm 3) (.lst .nil)) (.and (.cmp .nin (.nm 3) (.nm 2)) (.not (.blt .any (.cons (.lc (.and (.cmp .ne (.nm 3) (.nm 4)) (.pur f_is_within (.cons (.nm 3) (.cons (.nm 4) .nil)))) [4] false (.lis (.nm 1)) .non [4]) .nil))))) (.cons (.exp (.met .append (.nm 2) (.cons (.blt .list (.cons (.nm 3) .nil)) .nil))) .nil) .nil) .nil)
def b_complex_of : Sms := (.cons (.set 2 (.mk (.lst .nil))) (.cons (.for_ [3] false (.lis (.nm 1)) l_complex_of_0) (.cons (.ret (.tup (.cons (.kn (.str "complex")) (.cons (.nm 0) (.cons (.blt .sorted (.cons (.nm 2) .nil)) .nil))))) .nil)))
def b_is_digits : Sms := (.cons (.ife (.or (.not (.chn .lt .le (.kn (.int 0)) (.blt .len (.cons (.nm 0) .nil)) (.con g_MOST_FIGURES))) (.not (.blt .all (.cons (.lc (.cmp .isin (.nm 1) (.kn (.str "0123456789"))) [1] false (.txt (.nm 0)) .non [1]) .nil)))) (.cons (.ret (.kn (.bl false))) .nil) .nil) (.cons (.ret (.or (.cmp .eq (.nm 0) (.kn (.str "0"))) (.cmp .ne (.sub (.nm 0) (.kn (.int 0))) (.kn (.str "0"))))) .nil))
def b_words_of : Sms := (.cons (.ret (.lc (.nm 1) [1] false (.lis (.met .split (.sub (.met .split (.nm 0) (.cons (.kn (.str "#")) .nil)) (.kn (.int 0))) (.cons (.kn (.str " ")) .nil))) (.som (.cmp .ne (.nm 1) (.kn (.str "")))) [1])) .nil)
def b_lot_in : Sms := (.cons (.ife (.or (.cmp .eq (.nm 1) (.lst .nil)) (.not (.blt .all (.cons (.lc (.pur f_is_digits (.cons (.nm 2) .nil)) [2] false (.lis (.nm 1)) .non [2]) .nil)))) (.cons (.ret (.kn .non)) .nil) .nil) (.cons (.set 3 (.lc (.blt .int (.cons (.nm 2) .nil)) [2] false (.lis (.nm 1)) .non [2])) (.cons (.ret (.ife (.pur f_is_lot_by (.cons (.nm 0) (.cons (.nm 3) .nil))) (.nm 3) (.kn .non))) .nil)))
def b_many_in_words : Sms := (.cons (.ife (.or (.cmp .ne (.blt .len (.cons (.nm 0) .nil)) (.kn (.int 2))) (.or (.cmp .ne (.sub (.nm 0) (.kn (.int 0))) (.kn (.str "points"))) (.not (.pur f_is_digits (.cons (.sub (.nm 0) (.kn (.int 1))) .nil))))) (.cons (.ret (.kn .non)) .nil) .nil) (.cons (.ret (.ife (.chn .le .le (.kn (.int 1)) (.blt .int (.cons (.sub (.nm 0) (.kn (.int 1))) .nil)) (.con g_MOST_POINTS)) (.blt .int (.cons (.sub (.nm 0) (.kn (.int 1))) .nil)) (.kn .non))) .nil))
def l_read_by_0 : Sms := (.cons (.set 5 (.pur f_words_of (.cons (.nm 4) .nil))) (.cons (.ife (.and (.cmp .ne (.nm 5) (.lst .nil)) (.cmp .is_ (.nm 1) (.kn .non))) (.cons (.set 1 (.pur f_many_in_words (.cons (.nm 5) .nil))) (.cons (.ife (.cmp .is_ (.nm 1) (.kn .non)) (.cons (.ret (.tup (.cons (.kn .non) (.cons (.lst .nil) (.cons (.bin .add (.nm 3) (.kn (.int 1))) .nil))))) .nil) .nil) .nil)) (.cons (.ife (.cmp .ne (.nm 5) (.lst .nil)) (.cons (.set 6 (.ife (.and (.cmp .eq (.sub (.nm 5) (.kn (.int 0))) (.kn (.str "top"))) (.cmp .lt (.blt .len (.cons (.nm 2) .nil)) (.con g_MOST_TOPS))) (.pur f_lot_in (.cons (.nm 1) (.cons (.slc (.nm 5) (.som (.kn (.int 1))) .non) .nil))) (.kn .non))) (.cons (.ife (.cmp .is_ (.nm 6) (.kn .non)) (.cons (.ret (.tup (.cons (.kn .non) (.cons (.lst .nil) (.cons (.bin .add (.nm 3) (.kn (.int 1))) .nil))))) .nil) .nil) (.cons (.exp (.met .append (.nm 2) (.cons (.nm 6) .nil))) .nil))) .nil) .nil)) .nil))
def b_read_by : Sms := (.cons (.par [1, 2] (.cons (.kn .non) (.cons (.mk (.lst .nil)) .nil))) (.cons (.for_ [3, 4] true (.enu (.met .split (.nm 0) (.cons (.kn (.str "\n")) .nil))) l_read_by_0) (.cons (.ret (.tup (.cons (.nm 1) (.cons (.frz (.nm 2)) (.cons (.ife (.cmp .is_ (.nm 1) (.kn .non)) (.kn (.int 0)) (.kn .non)) .nil))))) .nil)))
def b_read_complex : Sms := (.cons (.ife (.not (.blt (.isi .str) (.cons (.nm 0) .nil))) (.cons (.rai x_InvalidText (.nm 0)) .nil) .nil) (.cons (.unp [1, 2, 3] (.pur f_read_by (.cons (.nm 0) .nil))) (.cons (.ife (.cmp .isn (.nm 3) (.kn .non)) (.cons (.rai x_InvalidText (.nm 0)) .nil) .nil) (.cons (.ret (.pur f_complex_of (.cons (.nm 1) (.cons (.nm 2) .nil)))) .nil))))
def b_wrong_line : Sms := (.cons (.ife (.not (.blt (.isi .str) (.cons (.nm 0) .nil))) (.cons (.rai x_InvalidText (.nm 0)) .nil) .nil) (.cons (.ret (.sub (.pur f_read_by (.cons (.nm 0) .nil)) (.kn (.int 2)))) .nil))
def b__law_digits : Sms := (.cons (.ret (.and (.chn .lt .lt (.kn (.int 0)) (.blt .len (.cons (.nm 0) .nil)) (.kn (.int 10))) (.and (.cmp .eq (.lc (.nm 1) [1] false (.txt (.nm 0)) (.som (.cmp .nin (.nm 1) (.kn (.str "0123456789")))) [1]) (.lst .nil)) (.or (.cmp .eq (.nm 0) (.kn (.str "0"))) (.cmp .ne (.sub (.nm 0) (.kn (.int 0))) (.kn (.str "0"))))))) .nil)
def l__law_read_0 : Sms := (.cons (.set 6 (.lc (.nm 5) [5] false (.lis (.met .split (.sub (.met .split (.nm 4) (.cons (.kn (.str "#")) .nil)) (.kn (.int 0))) (.cons (.kn (.str " ")) .nil))) (.som (.cmp .ne (.nm 5) (.kn (.str "")))) [5])) (.cons (.ife (.cmp .ne (.nm 6) (.lst .nil)) (.cons (.ife (.or (.cmp .ne (.lc (.nm 5) [5] false (.lis (.slc (.nm 6) (.som (.kn (.int 1))) .non)) (.som (.not (.pur f__law_digits (.cons (.nm 5) .nil)))) [5]) (.lst .nil)) (.cmp .lt (.blt .len (.cons (.nm 6) .nil)) (.kn (.int 2)))) (.cons (.ret (.tup (.cons (.kn .non) (.cons (.bin .add (.nm 3) (.kn (.int 1))) .nil)))) .nil) .nil) (.cons (.set 7 (.lc (.blt .int (.cons (.nm 5) .nil)) [5] false (.lis (.slc (.nm 6) (.som (.kn (.int 1))) .non)) .non [5])) (.cons (.ife (.cmp .is_ (.nm 1) (.kn .non)) (.cons (.ife (.or (.cmp .ne (.sub (.nm 6) (.kn (.int 0))) (.kn (.str "points"))) (.or (.cmp .ne (.blt .len (.cons (.nm 7) .nil)) (.kn (.int 1))) (.not (.chn .le .le (.kn (.int 1)) (.sub (.nm 7) (.kn (.int 0))) (.kn (.int 7)))))) (.cons (.ret (.tup (.cons (.kn .non) (.cons (.bin .add (.nm 3) (.kn (.int 1))) .nil)))) .nil) .nil) (.cons (.set 1 (.sub (.nm 7) (.kn (.int 0)))) .nil)) (.cons (.ife (.or (.cmp .ne (.sub (.nm 6) (.kn (.int 0))) (.kn (.str "top"))) (.or (.not (.pur f__law_is_lot (.cons (.nm 7) (.cons (.nm 1) .nil)))) (.cmp .eq (.blt .len (.cons (.nm 2) .nil)) (.kn (.int 20))))) (.cons (.ret (.tup (.cons (.kn .non) (.cons (.bin .add (.nm 3) (.kn (.int 1))) .nil)))) .nil) .nil) (.cons (.exp (.met .append (.nm 2) (.cons (.nm 7) .nil))) .nil))) .nil))) .nil) .nil))
def b__law_read : Sms := (.cons (.par [1, 2] (.cons (.kn .non) (.cons (.mk (.lst .nil)) .nil))) (.cons (.for_ [3, 4] true (.enu (.met .split (.nm 0) (.cons (.kn (.str "\n")) .nil))) l__law_read_0) (.cons (.ret (.ife (.cmp .is_ (.nm 1) (.kn .non)) (.tup (.cons (.kn .non) (.cons (.kn (.int 0)) .nil))) (.tup (.cons (.cal f__law_complex (.cons (.nm 1) (.cons (.nm 2) .nil))) (.cons (.kn .non) .nil))))) .nil)))
def b__law_texts : Sms := (.cons (.unp [2, 3] (.tup (.cons (.met .split (.nm 1) (.cons (.kn (.str "\n")) .nil)) (.cons (.cal f__law_draw (.cons (.nm 0) (.cons (.bin .add (.blt .len (.cons (.nm 1) .nil)) (.kn (.int 1))) .nil))) .nil)))) (.cons (.set 4 (.cal f__law_draw (.cons (.nm 0) (.cons (.blt .len (.cons (.nm 2) .nil)) .nil)))) (.cons (.set 5 (.lst (.cons (.nm 1) (.cons (.slc (.nm 1) .non (.som (.neg (.kn (.int 1))))) (.cons (.bin .add (.slc (.nm 1) .non (.som (.nm 3))) (.slc (.nm 1) (.som (.bin .add (.nm 3) (.kn (.int 1)))) .non)) (.cons (.bin .add (.nm 1) (.nm 1)) (.cons (.met .join (.kn (.str "\n")) (.cons (.bin .add (.slc (.nm 2) .non (.som (.nm 4))) (.slc (.nm 2) (.som (.bin .add (.nm 4) (.kn (.int 1)))) .non)) .nil)) .nil))))))) (.cons (.set 5 (.bin .add (.nm 5) (.lst (.cons (.met .join (.kn (.str "\n")) (.cons (.bin .add (.slc (.nm 2) .non (.som (.bin .add (.nm 4) (.kn (.int 1))))) (.slc (.nm 2) (.som (.nm 4)) .non)) .nil)) (.cons (.met .join (.kn (.str "\n")) (.cons (.bin .add (.slc (.nm 2) .non (.som (.kn (.int 1)))) (.rvb (.nm 2) 0)) .nil)) (.cons (.met .join (.kn (.str "\n")) (.cons (.rev (.nm 2)) .nil)) .nil)))))) (.cons (.set 5 (.bin .add (.nm 5) (.lc (.bin .add (.bin .add (.slc (.nm 1) .non (.som (.nm 3))) (.nm 6)) (.slc (.nm 1) (.som (.nm 3)) .non)) [6] false (.lis (.slc (.cal f__law_shuffled (.cons (.nm 0) (.cons (.lst (.cons (.kn (.str " ")) (.cons (.kn (.str "\n")) (.cons (.kn (.str "0")) (.cons (.kn (.str "-")) (.cons (.kn (.str "1")) (.cons (.kn (.str "a")) (.cons (.kn (.str "+")) (.cons (.kn (.str "_")) (.cons (.kn (.str "6")) (.cons (.kn (.str "#")) (.cons (.kn (.str "   ")) (.cons (.kn (.str "\t")) .nil))))))))))))) .nil))) .non (.som (.kn (.int 4))))) .non [6]))) (.cons (.set 7 (.lst (.cons (.kn (.str "")) (.cons (.kn (.str "points 3")) (.cons (.kn (.str "points 0")) (.cons (.kn (.str "points 8")) (.cons (.kn (.str "points")) (.cons (.kn (.str "points 1 1")) (.cons (.kn (.str "Points 3")) (.cons (.kn (.str "top")) (.cons (.kn (.str "top 0")) (.cons (.kn (.str "top 0 1")) (.cons (.kn (.str "top 1 0")) (.cons (.kn (.str "top 0 0")) (.cons (.kn (.str "top 7")) (.cons (.kn (.str "top -1")) (.cons (.kn (.str "top 00")) (.cons (.kn (.str "tops 0")) .nil)))))))))))))))))) (.cons (.set 7 (.bin .add (.nm 7) (.lst (.cons (.kn (.str "face 0")) (.cons (.kn (.str "top 0 1 2 3 4 5 6")) (.cons (.kn (.str "top 1234567890")) .nil)))))) (.cons (.ret (.bin .add (.nm 5) (.lc (.met .join (.kn (.str "\n")) (.cons (.bin .add (.bin .add (.slc (.nm 2) .non (.som (.nm 4))) (.lst (.cons (.nm 8) .nil))) (.slc (.nm 2) (.som (.bin .add (.nm 4) (.kn (.int 1)))) .non)) .nil)) [8] false (.lis (.slc (.cal f__law_shuffled (.cons (.nm 0) (.cons (.bin .add (.nm 7) (.lst (.cons (.bin .add (.kn (.str "top ")) (.bin .mul (.kn (.str "0")) (.kn (.int 5000)))) (.cons (.kn (.str "top 0 a")) .nil)))) .nil))) .non (.som (.kn (.int 10))))) .non [8]))) .nil))))))))
def b__law_rows : Sms := (.cons (.ret (.bin .add (.lst (.cons (.lst (.cons (.kn (.str "points")) (.cons (.blt .str (.cons (.sub (.nm 0) (.kn (.int 1))) .nil)) .nil))) .nil)) (.lc (.bin .add (.lst (.cons (.kn (.str "top")) .nil)) (.lc (.blt .str (.cons (.nm 2) .nil)) [2] false (.lis (.nm 1)) .non [2])) [1] false (.lis (.sub (.nm 0) (.kn (.int 2)))) .non [1]))) .nil)
def b__law_joined : Sms := (.cons (.ret (.met .join (.kn (.str "")) (.cons (.lc (.bin .add (.met .join (.kn (.str " ")) (.cons (.nm 1) .nil)) (.kn (.str "\n"))) [1] false (.lis (.nm 0)) .non [1]) .nil))) .nil)
def b__law_refused : Sms := (.cons (.set 2 (.kn .non)) (.cons (.tri (.cons (.exp (.cav 0 (.cons (.nm 1) .nil))) .nil) [0, 1] [] 3 (.keep 2)) (.cons (.ret (.and (.blt (.isi (.exc x_InvalidText)) (.cons (.nm 2) .nil)) (.cmp .eq (.blt .repr (.cons (.val (.nm 2)) .nil)) (.blt .repr (.cons (.nm 1) .nil))))) .nil)))
def b__law_is_number : Sms := (.cons (.ret (.and (.blt (.isi .int) (.cons (.nm 0) .nil)) (.not (.blt (.isi .bool) (.cons (.nm 0) .nil))))) .nil)
def b__law_is_lot : Sms := (.cons (.ife (.or (.not (.blt (.isi .list) (.cons (.nm 0) .nil))) (.cmp .ne (.lc (.nm 2) [2] false (.lis (.nm 0)) (.som (.or (.not (.pur f__law_is_number (.cons (.nm 2) .nil))) (.not (.chn .le .lt (.kn (.int 0)) (.nm 2) (.nm 1))))) [2]) (.lst .nil))) (.cons (.ret (.kn (.bl false))) .nil) .nil) (.cons (.ret (.cmp .eq (.lc (.nm 3) [3] false (.rg2 (.kn (.int 1)) (.blt .len (.cons (.nm 0) .nil))) (.som (.cmp .ge (.sub (.nm 0) (.bin .sub (.nm 3) (.kn (.int 1)))) (.sub (.nm 0) (.nm 3)))) [3]) (.lst .nil))) .nil))
def b__law_lot : Sms := (.cons (.ret (.lc (.nm 2) [2] false (.rg1 (.nm 1)) (.som (.cmp .eq (.cal f__law_draw (.cons (.nm 0) (.cons (.kn (.int 2)) .nil))) (.kn (.int 0)))) [2])) .nil)
def b__law_within : Sms := (.cons (.ret (.cmp .eq (.lc (.nm 2) [2] false (.lis (.nm 0)) (.som (.cmp .nin (.nm 2) (.nm 1))) [2]) (.lst .nil))) .nil)
def l__law_complex_0 : Sms := (.cons (.ife (.and (.cmp .ne (.nm 3) (.lst .nil)) (.and (.cmp .nin (.nm 3) (.nm 2)) (.cmp .eq (.lc (.nm 4) [4] false (.lis (.nm 1)) (.som (.and (.cmp .ne (.nm 4) (.nm 3)) (.pur f__law_within (.cons (.nm 3) (.cons (.nm 4) .nil))))) [4]) (.lst .nil)))) (.cons (.exp (.met .append (.nm 2) (.cons (.blt .list (.cons (.nm 3) .nil)) .nil))) .nil) .nil) .nil)
def b__law_complex : Sms := (.cons (.set 2 (.mk (.lst .nil))) (.cons (.for_ [3] false (.lis (.nm 1)) l__law_complex_0) (.cons (.ret (.tup (.cons (.kn (.str "complex")) (.cons (.nm 0) (.cons (.blt .sorted (.cons (.nm 2) .nil)) .nil))))) .nil)))
def b__law_body : Sms := (.cons (.ret (.pur f__law_complex (.cons (.nm 1) (.cons (.lc (.cal f__law_lot (.cons (.nm 0) (.cons (.nm 1) .nil))) [2] false (.rg1 (.cal f__law_draw (.cons (.nm 0) (.cons (.kn (.int 6)) .nil)))) .non [2]) .nil)))) .nil)
def l__law_shuffled_0 : Sms := (.cons (.exp (.met .append (.nm 3) (.cons (.met .popAt (.nm 2) (.cons (.cal f__law_draw (.cons (.nm 0) (.cons (.blt .len (.cons (.nm 2) .nil)) .nil))) .nil)) .nil))) .nil)
def b__law_shuffled : Sms := (.cons (.par [2, 3] (.cons (.mk (.blt .list (.cons (.nm 1) .nil))) (.cons (.mk (.lst .nil)) .nil))) (.cons (.for_ [4] false (.lis (.nm 1)) l__law_shuffled_0) (.cons (.ret (.frz (.nm 3))) .nil)))
def b__law_same : Sms := (.cons (.ife (.cmp .is_ (.nm 1) (.kn .non)) (.cons (.ret (.cmp .is_ (.nm 0) (.kn .non))) .nil) .nil) (.cons (.ife (.cmp .is_ (.nm 1) (.kn (.bl true))) (.cons (.ret (.cmp .is_ (.nm 0) (.kn (.bl true)))) .nil) .nil) (.cons (.ife (.cmp .is_ (.nm 1) (.kn (.bl false))) (.cons (.ret (.cmp .is_ (.nm 0) (.kn (.bl false)))) .nil) .nil) (.cons (.ife (.blt (.isis [.list, .tuple]) (.cons (.nm 1) .nil)) (.cons (.set 2 (.ife (.blt (.isi .list) (.cons (.nm 1) .nil)) (.blt (.isi .list) (.cons (.nm 0) .nil)) (.blt (.isi .tuple) (.cons (.nm 0) .nil)))) (.cons (.ret (.and (.nm 2) (.and (.cmp .eq (.blt .len (.cons (.nm 0) .nil)) (.blt .len (.cons (.nm 1) .nil))) (.blt .all (.cons (.lc (.pur f__law_same (.cons (.nm 3) (.cons (.nm 4) .nil))) [3, 4] true (.zip false (.nm 0) (.nm 1)) .non [3, 4]) .nil))))) .nil)) .nil) (.cons (.ife (.blt (.isi .int) (.cons (.nm 1) .nil)) (.cons (.ret (.and (.blt (.isi .int) (.cons (.nm 0) .nil)) (.and (.not (.blt (.isi .bool) (.cons (.nm 0) .nil))) (.cmp .eq (.nm 0) (.nm 1))))) .nil) .nil) (.cons (.ret (.and (.blt (.isi .str) (.cons (.nm 0) .nil)) (.cmp .eq (.nm 0) (.nm 1)))) .nil))))))
def l__law_purse_0 : Sms := (.cons (.set 1 (.bin .mod (.blt .int (.cons (.bin .add (.bin .mul (.nm 1) (.kn (.int 31))) (.nm 2)) .nil)) (.kn (.int 2147483647)))) .nil)
def b__law_purse : Sms := (.cons (.set 1 (.kn (.int 7))) (.cons (.for_ [2] false (.lis (.slc (.nm 0) .non (.som (.kn (.int 63))))) l__law_purse_0) (.cons (.ret (.mk (.lst (.cons (.lc (.nm 2) [2] false (.lis (.slc (.nm 0) .non (.som (.kn (.int 63))))) (.som (.cmp .ge (.nm 2) (.bin .pow (.kn (.int 10)) (.kn (.int 18))))) [2]) (.cons (.kn (.int 0)) (.cons (.kn (.int 0)) (.cons (.kn (.int 0)) (.cons (.nm 1) .nil)))))))) .nil)))
def b__law_draw : Sms := (.cons (.ife (.and (.cmp .lt (.sub (.nm 0) (.kn (.int 2))) (.nm 1)) (.cmp .lt (.sub (.nm 0) (.kn (.int 1))) (.blt .len (.cons (.sub (.nm 0) (.kn (.int 0))) .nil)))) (.cons (.sti (.nm 0) (.kn (.int 2)) (.sub (.sub (.nm 0) (.kn (.int 0))) (.sub (.nm 0) (.kn (.int 1))))) (.cons (.agi (.nm 0) (.kn (.int 1)) .add (.kn (.int 1))) .nil)) .nil) (.cons (.ife (.cmp .ge (.sub (.nm 0) (.kn (.int 2))) (.nm 1)) (.cons (.set 2 (.bin .mod (.blt .int (.cons (.sub (.nm 0) (.kn (.int 2))) .nil)) (.nm 1))) (.cons (.sti (.nm 0) (.kn (.int 2)) (.bin .fdv (.sub (.nm 0) (.kn (.int 2))) (.nm 1))) (.cons (.ret (.nm 2)) .nil))) .nil) (.cons (.agi (.nm 0) (.kn (.int 3)) .add (.kn (.int 1))) (.cons (.set 3 (.bin .mod (.blt .int (.cons (.bin .mul (.bin .add (.bin .mul (.sub (.nm 0) (.kn (.int 3))) (.sub (.nm 0) (.kn (.int 3)))) (.sub (.nm 0) (.kn (.int 4)))) (.kn (.int 48271))) .nil)) (.kn (.int 2147483629)))) (.cons (.ret (.bin .mod (.blt .int (.cons (.bin .mod (.blt .int (.cons (.bin .mul (.nm 3) (.nm 3)) .nil)) (.kn (.int 2147483587))) .nil)) (.nm 1))) .nil)))))
def b__law_pick : Sms := (.cons (.ret (.sub (.nm 1) (.cal f__law_draw (.cons (.nm 0) (.cons (.blt .len (.cons (.nm 1) .nil)) .nil))))) .nil)
def l_law_0 : Sms := (.cons (.ife (.or (.not (.pur f__law_refused (.cons (.fn f_wrong_line) (.cons (.nm 9) .nil)))) (.not (.pur f__law_refused (.cons (.fn f_read_complex) (.cons (.nm 9) .nil))))) (.cons (.ret (.kn (.bl false))) .nil) .nil) .nil)
def l_law_1 : Sms := (.cons (.unp [7, 8] (.pur f__law_read (.cons (.nm 6) .nil))) (.cons (.ife (.not (.pur f__law_same (.cons (.lst (.cons (.pur f_wrong_line (.cons (.nm 6) .nil)) (.cons (.cak f_wrong_line .nil (.cons (.nm 6) .nil) [0]) .nil))) (.cons (.lst (.cons (.nm 8) (.cons (.nm 8) .nil))) .nil)))) (.cons (.ret (.kn (.bl false))) .nil) .nil) (.cons (.ife (.or (.and (.cmp .is_ (.nm 8) (.kn .non)) (.not (.pur f__law_same (.cons (.pur f_read_complex (.cons (.nm 6) .nil)) (.cons (.nm 7) .nil))))) (.and (.cmp .isn (.nm 8) (.kn .non)) (.not (.pur f__law_refused (.cons (.fn f_read_complex) (.cons (.nm 6) .nil)))))) (.cons (.ret (.kn (.bl false))) .nil) .nil) .nil)))
def l_law_2 : Sms := (.cons (.set 5 (.cal f__law_body (.cons (.nm 1) (.cons (.bin .add (.kn (.int 1)) (.cal f__law_draw (.cons (.nm 1) (.cons (.kn (.int 7)) .nil)))) .nil)))) (.cons (.for_ [6] false (.lis (.bin .add (.cal f__law_texts (.cons (.nm 1) (.cons (.pur f__law_joined (.cons (.pur f__law_rows (.cons (.nm 5) .nil)) .nil)) .nil))) (.lst (.cons (.cal f__law_pick (.cons (.nm 1) (.cons (.lst (.cons (.kn (.str "")) (.cons (.kn (.str "#")) (.cons (.kn (.str "\n\n")) (.cons (.kn (.str "points 3")) (.cons (.nm 3) (.cons (.slc (.nm 3) .non (.som (.neg (.kn (.int 8))))) (.cons (.kn (.str "points 1\ntop 0\ntop 0")) .nil)))))))) .nil))) .nil)))) l_law_1) .nil))
def b_law : Sms := (.cons (.set 1 (.cal f__law_purse (.cons (.nm 0) .nil))) (.cons (.set 3 (.bin .add (.kn (.str "points 7\n")) (.met .join (.kn (.str "")) (.cons (.lc (.bin .add (.bin .add (.kn (.str "top ")) (.blt .str (.cons (.bin .fdv (.nm 2) (.kn (.int 4))) .nil))) (.kn (.str " 6\n"))) [2] false (.rg1 (.kn (.int 21))) .non [2]) .nil)))) (.cons (.for_ [4] false (.rg1 (.kn (.int 10))) l_law_2) (.cons (.for_ [9] false (.lis (.lst (.cons (.kn .non) (.cons (.kn (.int 0)) (.cons (.lst .nil) (.cons (.tup (.cons (.kn (.str "points 2\n")) .nil)) (.cons (.kn (.bl true)) (.cons (.dic0) .nil)))))))) l_law_0) (.cons (.ret (.and (.cmp .eq (.pur f_wrong_line (.cons (.nm 3) .nil)) (.kn (.int 22))) (.cmp .is_ (.pur f_wrong_line (.cons (.slc (.nm 3) .non (.som (.neg (.kn (.int 8))))) .nil)) (.kn .non)))) .nil)))))
def fl : List Fn := [⟨1, 1, b_is_whole⟩, ⟨2, 4, b_is_lot_by⟩, ⟨2, 3, b_is_within⟩, ⟨2, 5, b_complex_of⟩, ⟨1, 2, b_is_digits⟩, ⟨1, 2, b_words_of⟩, ⟨2, 4, b_lot_in⟩, ⟨1, 1, b_many_in_words⟩, ⟨1, 7, b_read_by⟩, ⟨1, 4, b_read_complex⟩, ⟨1, 1, b_wrong_line⟩, ⟨1, 2, b__law_digits⟩, ⟨1, 8, b__law_read⟩, ⟨2, 9, b__law_texts⟩, ⟨1, 3, b__law_rows⟩, ⟨1, 2, b__law_joined⟩, ⟨2, 4, b__law_refused⟩, ⟨1, 1, b__law_is_number⟩, ⟨2, 4, b__law_is_lot⟩, ⟨2, 3, b__law_lot⟩, ⟨2, 3, b__law_within⟩, ⟨2, 5, b__law_complex⟩, ⟨2, 3, b__law_body⟩, ⟨2, 5, b__law_shuffled⟩, ⟨2, 5, b__law_same⟩, ⟨1, 3, b__law_purse⟩, ⟨2, 4, b__law_draw⟩, ⟨2, 2, b__law_pick⟩, ⟨1, 10, b_law⟩]
theorem lk_is_whole : fl[f_is_whole]? = some ⟨1, 1, b_is_whole⟩ := rfl
theorem lk_is_lot_by : fl[f_is_lot_by]? = some ⟨2, 4, b_is_lot_by⟩ := rfl
theorem lk_is_within : fl[f_is_within]? = some ⟨2, 3, b_is_within⟩ := rfl
theorem lk_complex_of : fl[f_complex_of]? = some ⟨2, 5, b_complex_of⟩ := rfl
theorem lk_is_digits : fl[f_is_digits]? = some ⟨1, 2, b_is_digits⟩ := rfl
theorem lk_words_of : fl[f_words_of]? = some ⟨1, 2, b_words_of⟩ := rfl
theorem lk_lot_in : fl[f_lot_in]? = some ⟨2, 4, b_lot_in⟩ := rfl
theorem lk_many_in_words : fl[f_many_in_words]? = some ⟨1, 1, b_many_in_words⟩ := rfl
theorem lk_read_by : fl[f_read_by]? = some ⟨1, 7, b_read_by⟩ := rfl
theorem lk_read_complex : fl[f_read_complex]? = some ⟨1, 4, b_read_complex⟩ := rfl
theorem lk_wrong_line : fl[f_wrong_line]? = some ⟨1, 1, b_wrong_line⟩ := rfl
theorem lk__law_digits : fl[f__law_digits]? = some ⟨1, 2, b__law_digits⟩ := rfl
theorem lk__law_read : fl[f__law_read]? = some ⟨1, 8, b__law_read⟩ := rfl
theorem lk__law_texts : fl[f__law_texts]? = some ⟨2, 9, b__law_texts⟩ := rfl
theorem lk__law_rows : fl[f__law_rows]? = some ⟨1, 3, b__law_rows⟩ := rfl
theorem lk__law_joined : fl[f__law_joined]? = some ⟨1, 2, b__law_joined⟩ := rfl
theorem lk__law_refused : fl[f__law_refused]? = some ⟨2, 4, b__law_refused⟩ := rfl
theorem lk__law_is_number : fl[f__law_is_number]? = some ⟨1, 1, b__law_is_number⟩ := rfl
theorem lk__law_is_lot : fl[f__law_is_lot]? = some ⟨2, 4, b__law_is_lot⟩ := rfl
theorem lk__law_lot : fl[f__law_lot]? = some ⟨2, 3, b__law_lot⟩ := rfl
theorem lk__law_within : fl[f__law_within]? = some ⟨2, 3, b__law_within⟩ := rfl
theorem lk__law_complex : fl[f__law_complex]? = some ⟨2, 5, b__law_complex⟩ := rfl
theorem lk__law_body : fl[f__law_body]? = some ⟨2, 3, b__law_body⟩ := rfl
theorem lk__law_shuffled : fl[f__law_shuffled]? = some ⟨2, 5, b__law_shuffled⟩ := rfl
theorem lk__law_same : fl[f__law_same]? = some ⟨2, 5, b__law_same⟩ := rfl
theorem lk__law_purse : fl[f__law_purse]? = some ⟨1, 3, b__law_purse⟩ := rfl
theorem lk__law_draw : fl[f__law_draw]? = some ⟨2, 4, b__law_draw⟩ := rfl
theorem lk__law_pick : fl[f__law_pick]? = some ⟨2, 2, b__law_pick⟩ := rfl
theorem lk_law : fl[f_law]? = some ⟨1, 10, b_law⟩ := rfl
abbrev NF : Nat := 29
end L
end MP
end
section
set_option maxRecDepth 100000
set_option maxHeartbeats 0
namespace MP
namespace L
open PySem PySem.Spec PyProof.Rows L2
def top (i : Nat) : Stmt := PySem.Challenge.pw_holestold_k87_wrong_lines_of_complexes.main.body.getD i (.Pass ⟨0, 0, 0, 0⟩)
def T : Tab := ⟨["is_whole", "is_lot_by", "is_within", "complex_of", "is_digits", "words_of", "lot_in", "many_in_words", "read_by", "read_complex", "wrong_line", "_law_digits", "_law_read", "_law_texts", "_law_rows", "_law_joined", "_law_refused", "_law_is_number", "_law_is_lot", "_law_lot", "_law_within", "_law_complex", "_law_body", "_law_shuffled", "_law_same", "_law_purse", "_law_draw", "_law_pick", "law"], ["MOST_POINTS", "MOST_TOPS", "MOST_FIGURES"], ["HoleError", "InvalidText"], [(10, 0, ["text"], [0])]⟩
def e_is_whole : Ent := ⟨⟨("is_whole", none), "is_whole", "is_whole", defArgs (top 6), defBody (top 6), defScope (top 6), [], []⟩, ["value"], ["value"], ⟨1, 1, b_is_whole⟩⟩
def e_is_lot_by : Ent := ⟨⟨("is_lot_by", none), "is_lot_by", "is_lot_by", defArgs (top 7), defBody (top 7), defScope (top 7), [], []⟩, ["many", "value", "one", "at"], ["many", "value"], ⟨2, 4, b_is_lot_by⟩⟩
def e_is_within : Ent := ⟨⟨("is_within", none), "is_within", "is_within", defArgs (top 8), defBody (top 8), defScope (top 8), [], []⟩, ["one", "other", "point"], ["one", "other"], ⟨2, 3, b_is_within⟩⟩
def e_complex_of : Ent := ⟨⟨("complex_of", none), "complex_of", "complex_of", defArgs (top 9), defBody (top 9), defScope (top 9), [], []⟩, ["many", "lots", "found", "lot", "other"], ["many", "lots"], ⟨2, 5, b_complex_of⟩⟩
def e_is_digits : Ent := ⟨⟨("is_digits", none), "is_digits", "is_digits", defArgs (top 12), defBody (top 12), defScope (top 12), [], []⟩, ["word", "sign"], ["word"], ⟨1, 2, b_is_digits⟩⟩
def e_words_of : Ent := ⟨⟨("words_of", none), "words_of", "words_of", defArgs (top 13), defBody (top 13), defScope (top 13), [], []⟩, ["line", "word"], ["line"], ⟨1, 2, b_words_of⟩⟩
def e_lot_in : Ent := ⟨⟨("lot_in", none), "lot_in", "lot_in", defArgs (top 14), defBody (top 14), defScope (top 14), [], []⟩, ["many", "words", "word", "found"], ["many", "words"], ⟨2, 4, b_lot_in⟩⟩
def e_many_in_words : Ent := ⟨⟨("many_in_words", none), "many_in_words", "many_in_words", defArgs (top 15), defBody (top 15), defScope (top 15), [], []⟩, ["words"], ["words"], ⟨1, 1, b_many_in_words⟩⟩
def e_read_by : Ent := ⟨⟨("read_by", none), "read_by", "read_by", defArgs (top 16), defBody (top 16), defScope (top 16), [], []⟩, ["text", "many", "lots", "number", "line", "words", "lot"], ["text"], ⟨1, 7, b_read_by⟩⟩
def e_read_complex : Ent := ⟨⟨("read_complex", none), "read_complex", "read_complex", defArgs (top 17), defBody (top 17), defScope (top 17), [], []⟩, ["text", "many", "lots", "wrong"], ["text"], ⟨1, 4, b_read_complex⟩⟩
def e_wrong_line : Ent := ⟨⟨("wrong_line", none), "wrong_line", "wrong_line", defArgs (top 18), defBody (top 18), defScope (top 18), [], []⟩, ["text"], ["text"], ⟨1, 1, b_wrong_line⟩⟩
def e__law_digits : Ent := ⟨⟨("_law_digits", none), "_law_digits", "_law_digits", defArgs (top 20), defBody (top 20), defScope (top 20), [], []⟩, ["word", "sign"], ["word"], ⟨1, 2, b__law_digits⟩⟩
def e__law_read : Ent := ⟨⟨("_law_read", none), "_law_read", "_law_read", defArgs (top 21), defBody (top 21), defScope (top 21), [], []⟩, ["text", "many", "lots", "at", "line", "word", "words", "numbers"], ["text"], ⟨1, 8, b__law_read⟩⟩
def e__law_texts : Ent := ⟨⟨("_law_texts", none), "_law_texts", "_law_texts", defArgs (top 22), defBody (top 22), defScope (top 22), [], []⟩, ["purse", "text", "lines", "place", "at", "found", "sign", "odd", "one"], ["purse", "text"], ⟨2, 9, b__law_texts⟩⟩
def e__law_rows : Ent := ⟨⟨("_law_rows", none), "_law_rows", "_law_rows", defArgs (top 23), defBody (top 23), defScope (top 23), [], []⟩, ["body", "top", "point"], ["body"], ⟨1, 3, b__law_rows⟩⟩
def e__law_joined : Ent := ⟨⟨("_law_joined", none), "_law_joined", "_law_joined", defArgs (top 24), defBody (top 24), defScope (top 24), [], []⟩, ["rows", "words"], ["rows"], ⟨1, 2, b__law_joined⟩⟩
def e__law_refused : Ent := ⟨⟨("_law_refused", none), "_law_refused", "_law_refused", defArgs (top 25), defBody (top 25), defScope (top 25), [], []⟩, ["call", "text", "caught", "e"], ["call", "text"], ⟨2, 4, b__law_refused⟩⟩
def e__law_is_number : Ent := ⟨⟨("_law_is_number", none), "_law_is_number", "_law_is_number", defArgs (top 26), defBody (top 26), defScope (top 26), [], []⟩, ["value"], ["value"], ⟨1, 1, b__law_is_number⟩⟩
def e__law_is_lot : Ent := ⟨⟨("_law_is_lot", none), "_law_is_lot", "_law_is_lot", defArgs (top 27), defBody (top 27), defScope (top 27), [], []⟩, ["value", "many", "one", "at"], ["value", "many"], ⟨2, 4, b__law_is_lot⟩⟩
def e__law_lot : Ent := ⟨⟨("_law_lot", none), "_law_lot", "_law_lot", defArgs (top 28), defBody (top 28), defScope (top 28), [], []⟩, ["purse", "many", "point"], ["purse", "many"], ⟨2, 3, b__law_lot⟩⟩
def e__law_within : Ent := ⟨⟨("_law_within", none), "_law_within", "_law_within", defArgs (top 29), defBody (top 29), defScope (top 29), [], []⟩, ["one", "other", "point"], ["one", "other"], ⟨2, 3, b__law_within⟩⟩
def e__law_complex : Ent := ⟨⟨("_law_complex", none), "_law_complex", "_law_complex", defArgs (top 30), defBody (top 30), defScope (top 30), [], []⟩, ["many", "lots", "found", "lot", "other"], ["many", "lots"], ⟨2, 5, b__law_complex⟩⟩
def e__law_body : Ent := ⟨⟨("_law_body", none), "_law_body", "_law_body", defArgs (top 31), defBody (top 31), defScope (top 31), [], []⟩, ["purse", "many", "turn"], ["purse", "many"], ⟨2, 3, b__law_body⟩⟩
def e__law_shuffled : Ent := ⟨⟨("_law_shuffled", none), "_law_shuffled", "_law_shuffled", defArgs (top 32), defBody (top 32), defScope (top 32), [], []⟩, ["purse", "things", "left", "found", "thing"], ["purse", "things"], ⟨2, 5, b__law_shuffled⟩⟩
def e__law_same : Ent := ⟨⟨("_law_same", none), "_law_same", "_law_same", defArgs (top 33), defBody (top 33), defScope (top 33), [], []⟩, ["told", "due", "alike", "one", "other"], ["told", "due"], ⟨2, 5, b__law_same⟩⟩
def e__law_purse : Ent := ⟨⟨("_law_purse", none), "_law_purse", "_law_purse", defArgs (top 34), defBody (top 34), defScope (top 34), [], []⟩, ["script", "seed", "cell"], ["script"], ⟨1, 3, b__law_purse⟩⟩
def e__law_draw : Ent := ⟨⟨("_law_draw", none), "_law_draw", "_law_draw", defArgs (top 35), defBody (top 35), defScope (top 35), [], []⟩, ["purse", "many", "told", "stirred"], ["purse", "many"], ⟨2, 4, b__law_draw⟩⟩
def e__law_pick : Ent := ⟨⟨("_law_pick", none), "_law_pick", "_law_pick", defArgs (top 36), defBody (top 36), defScope (top 36), [], []⟩, ["purse", "things"], ["purse", "things"], ⟨2, 2, b__law_pick⟩⟩
def e_law : Ent := ⟨⟨("law", none), "law", "law", defArgs (top 37), defBody (top 37), defScope (top 37), [], []⟩, ["script", "purse", "at", "long", "turn", "body", "late", "told", "wrong", "bad"], ["script"], ⟨1, 10, b_law⟩⟩
def es : List Ent := [e_is_whole, e_is_lot_by, e_is_within, e_complex_of, e_is_digits, e_words_of, e_lot_in, e_many_in_words, e_read_by, e_read_complex, e_wrong_line, e__law_digits, e__law_read, e__law_texts, e__law_rows, e__law_joined, e__law_refused, e__law_is_number, e__law_is_lot, e__law_lot, e__law_within, e__law_complex, e__law_body, e__law_shuffled, e__law_same, e__law_purse, e__law_draw, e__law_pick, e_law]
theorem ok_is_whole : entB T e_is_whole = true := by kernel_rfl
theorem ok_is_lot_by : entB T e_is_lot_by = true := by kernel_rfl
theorem ok_is_within : entB T e_is_within = true := by kernel_rfl
theorem ok_complex_of : entB T e_complex_of = true := by kernel_rfl
theorem ok_is_digits : entB T e_is_digits = true := by kernel_rfl
theorem ok_words_of : entB T e_words_of = true := by kernel_rfl
theorem ok_lot_in : entB T e_lot_in = true := by kernel_rfl
theorem ok_many_in_words : entB T e_many_in_words = true := by kernel_rfl
theorem ok_read_by : entB T e_read_by = true := by kernel_rfl
theorem ok_read_complex : entB T e_read_complex = true := by kernel_rfl
theorem ok_wrong_line : entB T e_wrong_line = true := by kernel_rfl
theorem ok__law_digits : entB T e__law_digits = true := by kernel_rfl
theorem ok__law_read : entB T e__law_read = true := by kernel_rfl
theorem ok__law_texts : entB T e__law_texts = true := by kernel_rfl
theorem ok__law_rows : entB T e__law_rows = true := by kernel_rfl
theorem ok__law_joined : entB T e__law_joined = true := by kernel_rfl
theorem ok__law_refused : entB T e__law_refused = true := by kernel_rfl
theorem ok__law_is_number : entB T e__law_is_number = true := by kernel_rfl
theorem ok__law_is_lot : entB T e__law_is_lot = true := by kernel_rfl
theorem ok__law_lot : entB T e__law_lot = true := by kernel_rfl
theorem ok__law_within : entB T e__law_within = true := by kernel_rfl
theorem ok__law_complex : entB T e__law_complex = true := by kernel_rfl
theorem ok__law_body : entB T e__law_body = true := by kernel_rfl
theorem ok__law_shuffled : entB T e__law_shuffled = true := by kernel_rfl
theorem ok__law_same : entB T e__law_same = true := by kernel_rfl
theorem ok__law_purse : entB T e__law_purse = true := by kernel_rfl
theorem ok__law_draw : entB T e__law_draw = true := by kernel_rfl
theorem ok__law_pick : entB T e__law_pick = true := by kernel_rfl
theorem ok_law : entB T e_law = true := by kernel_rfl
theorem bi_is_whole : BindE e_is_whole := fun _ _ _ _ _ _ us hl => match us, hl with | [_], _ => rfl
theorem bi_is_lot_by : BindE e_is_lot_by := fun _ _ _ _ _ _ us hl => match us, hl with | [_, _], _ => rfl
theorem bi_is_within : BindE e_is_within := fun _ _ _ _ _ _ us hl => match us, hl with | [_, _], _ => rfl
theorem bi_complex_of : BindE e_complex_of := fun _ _ _ _ _ _ us hl => match us, hl with | [_, _], _ => rfl
theorem bi_is_digits : BindE e_is_digits := fun _ _ _ _ _ _ us hl => match us, hl with | [_], _ => rfl
theorem bi_words_of : BindE e_words_of := fun _ _ _ _ _ _ us hl => match us, hl with | [_], _ => rfl
theorem bi_lot_in : BindE e_lot_in := fun _ _ _ _ _ _ us hl => match us, hl with | [_, _], _ => rfl
theorem bi_many_in_words : BindE e_many_in_words := fun _ _ _ _ _ _ us hl => match us, hl with | [_], _ => rfl
theorem bi_read_by : BindE e_read_by := fun _ _ _ _ _ _ us hl => match us, hl with | [_], _ => rfl
theorem bi_read_complex : BindE e_read_complex := fun _ _ _ _ _ _ us hl => match us, hl with | [_], _ => rfl
theorem bi_wrong_line : BindE e_wrong_line := fun _ _ _ _ _ _ us hl => match us, hl with | [_], _ => rfl
theorem bi__law_digits : BindE e__law_digits := fun _ _ _ _ _ _ us hl => match us, hl with | [_], _ => rfl
theorem bi__law_read : BindE e__law_read := fun _ _ _ _ _ _ us hl => match us, hl with | [_], _ => rfl
theorem bi__law_texts : BindE e__law_texts := fun _ _ _ _ _ _ us hl => match us, hl with | [_, _], _ => rfl
theorem bi__law_rows : BindE e__law_rows := fun _ _ _ _ _ _ us hl => match us, hl with | [_], _ => rfl
theorem bi__law_joined : BindE e__law_joined := fun _ _ _ _ _ _ us hl => match us, hl with | [_], _ => rfl
theorem bi__law_refused : BindE e__law_refused := fun _ _ _ _ _ _ us hl => match us, hl with | [_, _], _ => rfl
theorem bi__law_is_number : BindE e__law_is_number := fun _ _ _ _ _ _ us hl => match us, hl with | [_], _ => rfl
theorem bi__law_is_lot : BindE e__law_is_lot := fun _ _ _ _ _ _ us hl => match us, hl with | [_, _], _ => rfl
theorem bi__law_lot : BindE e__law_lot := fun _ _ _ _ _ _ us hl => match us, hl with | [_, _], _ => rfl
theorem bi__law_within : BindE e__law_within := fun _ _ _ _ _ _ us hl => match us, hl with | [_, _], _ => rfl
theorem bi__law_complex : BindE e__law_complex := fun _ _ _ _ _ _ us hl => match us, hl with | [_, _], _ => rfl
theorem bi__law_body : BindE e__law_body := fun _ _ _ _ _ _ us hl => match us, hl with | [_, _], _ => rfl
theorem bi__law_shuffled : BindE e__law_shuffled := fun _ _ _ _ _ _ us hl => match us, hl with | [_, _], _ => rfl
theorem bi__law_same : BindE e__law_same := fun _ _ _ _ _ _ us hl => match us, hl with | [_, _], _ => rfl
theorem bi__law_purse : BindE e__law_purse := fun _ _ _ _ _ _ us hl => match us, hl with | [_], _ => rfl
theorem bi__law_draw : BindE e__law_draw := fun _ _ _ _ _ _ us hl => match us, hl with | [_, _], _ => rfl
theorem bi__law_pick : BindE e__law_pick := fun _ _ _ _ _ _ us hl => match us, hl with | [_, _], _ => rfl
theorem bi_law : BindE e_law := fun _ _ _ _ _ _ us hl => match us, hl with | [_], _ => rfl
theorem oks : ∀ e ∈ es, entB T e = true := List.forall_mem_cons.mpr ⟨ok_is_whole, List.forall_mem_cons.mpr ⟨ok_is_lot_by, List.forall_mem_cons.mpr ⟨ok_is_within, List.forall_mem_cons.mpr ⟨ok_complex_of, List.forall_mem_cons.mpr ⟨ok_is_digits, List.forall_mem_cons.mpr ⟨ok_words_of, List.forall_mem_cons.mpr ⟨ok_lot_in, List.forall_mem_cons.mpr ⟨ok_many_in_words, List.forall_mem_cons.mpr ⟨ok_read_by, List.forall_mem_cons.mpr ⟨ok_read_complex, List.forall_mem_cons.mpr ⟨ok_wrong_line, List.forall_mem_cons.mpr ⟨ok__law_digits, List.forall_mem_cons.mpr ⟨ok__law_read, List.forall_mem_cons.mpr ⟨ok__law_texts, List.forall_mem_cons.mpr ⟨ok__law_rows, List.forall_mem_cons.mpr ⟨ok__law_joined, List.forall_mem_cons.mpr ⟨ok__law_refused, List.forall_mem_cons.mpr ⟨ok__law_is_number, List.forall_mem_cons.mpr ⟨ok__law_is_lot, List.forall_mem_cons.mpr ⟨ok__law_lot, List.forall_mem_cons.mpr ⟨ok__law_within, List.forall_mem_cons.mpr ⟨ok__law_complex, List.forall_mem_cons.mpr ⟨ok__law_body, List.forall_mem_cons.mpr ⟨ok__law_shuffled, List.forall_mem_cons.mpr ⟨ok__law_same, List.forall_mem_cons.mpr ⟨ok__law_purse, List.forall_mem_cons.mpr ⟨ok__law_draw, List.forall_mem_cons.mpr ⟨ok__law_pick, List.forall_mem_cons.mpr ⟨ok_law, fun _ z => nomatch z⟩⟩⟩⟩⟩⟩⟩⟩⟩⟩⟩⟩⟩⟩⟩⟩⟩⟩⟩⟩⟩⟩⟩⟩⟩⟩⟩⟩⟩
theorem bis : ∀ e ∈ es, BindE e := List.forall_mem_cons.mpr ⟨bi_is_whole, List.forall_mem_cons.mpr ⟨bi_is_lot_by, List.forall_mem_cons.mpr ⟨bi_is_within, List.forall_mem_cons.mpr ⟨bi_complex_of, List.forall_mem_cons.mpr ⟨bi_is_digits, List.forall_mem_cons.mpr ⟨bi_words_of, List.forall_mem_cons.mpr ⟨bi_lot_in, List.forall_mem_cons.mpr ⟨bi_many_in_words, List.forall_mem_cons.mpr ⟨bi_read_by, List.forall_mem_cons.mpr ⟨bi_read_complex, List.forall_mem_cons.mpr ⟨bi_wrong_line, List.forall_mem_cons.mpr ⟨bi__law_digits, List.forall_mem_cons.mpr ⟨bi__law_read, List.forall_mem_cons.mpr ⟨bi__law_texts, List.forall_mem_cons.mpr ⟨bi__law_rows, List.forall_mem_cons.mpr ⟨bi__law_joined, List.forall_mem_cons.mpr ⟨bi__law_refused, List.forall_mem_cons.mpr ⟨bi__law_is_number, List.forall_mem_cons.mpr ⟨bi__law_is_lot, List.forall_mem_cons.mpr ⟨bi__law_lot, List.forall_mem_cons.mpr ⟨bi__law_within, List.forall_mem_cons.mpr ⟨bi__law_complex, List.forall_mem_cons.mpr ⟨bi__law_body, List.forall_mem_cons.mpr ⟨bi__law_shuffled, List.forall_mem_cons.mpr ⟨bi__law_same, List.forall_mem_cons.mpr ⟨bi__law_purse, List.forall_mem_cons.mpr ⟨bi__law_draw, List.forall_mem_cons.mpr ⟨bi__law_pick, List.forall_mem_cons.mpr ⟨bi_law, fun _ z => nomatch z⟩⟩⟩⟩⟩⟩⟩⟩⟩⟩⟩⟩⟩⟩⟩⟩⟩⟩⟩⟩⟩⟩⟩⟩⟩⟩⟩⟩⟩
theorem kw_0 : BindK e_wrong_line 0 ["text"] [0] := fun _ _ _ _ _ _ us ws l1 l2 => match us, l1, ws, l2 with | [], _, [w0], _ => ⟨[w0], rfl, rfl⟩
theorem kwa : ∀ (i : Nat) (e : Ent) (m : Nat) (ks : List Str) (ix : List Nat), es[i]? = some e → (i, m, ks, ix) ∈ T.kws → BindK e m ks ix := by
  intro i e m ks ix he hk
  have hk : (i, m, ks, ix) ∈ ([(10, 0, ["text"], [0])] : List (Nat × Nat × List Str × List Nat)) := hk
  rcases List.mem_cons.mp hk with h | hk
  · cases h
    cases he
    exact kw_0
  cases hk
abbrev P : Program := PySem.Challenge.rw_holestold_k87_wrong_lines_of_complexes.prog
theorem given : Given es T (conOf nums) (faOf es T.exc nums) P := given_of (by rfl) (by decide +kernel) oks bis kwa (by rfl) (by decide +kernel)
def nm0 : List Str := ["HoleError", "InvalidText", "MOST_POINTS", "MOST_TOPS", "is_whole", "is_lot_by", "is_within", "complex_of", "MOST_FIGURES", "is_digits", "words_of", "lot_in", "many_in_words", "read_by", "read_complex", "wrong_line", "_law_digits", "_law_read", "_law_texts", "_law_rows", "_law_joined", "_law_refused", "_law_is_number", "_law_is_lot", "_law_lot", "_law_within", "_law_complex", "_law_body", "_law_shuffled", "_law_same"]
def nm1 : List Str := ["_law_purse", "_law_draw", "_law_pick"]
def loose : List Str := nm0 ++ nm1
abbrev rowR : PySem.W.OpenRow := PySem.W.OpenLaw.row PySem.Challenge.rw_holestold_k87_wrong_lines_of_complexes
abbrev hk : PySem.W.Hook := hookM 4 (faOf es T.exc nums) (es.map (·.d)) (clsB P.main.file T.exc)
def ob (s : PySem.W.SharedT) : He.AlD × Bool := obsM 4 (faOf es T.exc nums) (es.map (·.d)) (clsB P.main.file T.exc) (HandSHeadRun.getT s)
theorem ob_eq (s : PySem.W.SharedT) : ob s = hk.obs s.abs := obsM_eq (HandSHeadRun.getT_eq s)
theorem runH (w : World) : HandSHeadRun.RunEq rowR (PySem.W.view rowR.prog [37]) hk ob 20000 loose w := by
  intro os
  kernel_rfl
end L
end MP
open PySem PySem.W PySem.Calls PyProof.Rows
theorem holds_of (law : ∀ ns : List Int, ns.length ≤ 63 → ∃ st, MP.run (fun i => MP.L.fl[i]?) (MP.conOf MP.L.nums) 400 29 20 28 [.scr ns] [] = .ok (.bl true) st) : PySem.Challenge.rw_holestold_k87_wrong_lines_of_complexes.Holds := by
  w_on; o_law
  refine HandSHeadRun.head_any (r := OpenLaw.row PySem.Challenge.rw_holestold_k87_wrong_lines_of_complexes) (q := view (OpenLaw.row PySem.Challenge.rw_holestold_k87_wrong_lines_of_complexes).prog [37]) (H := MP.L.hk) (ob := MP.L.ob) (M := 20000) (loose := MP.L.loose) (d := HandSHeadRun.topDef (OpenLaw.row PySem.Challenge.rw_holestold_k87_wrong_lines_of_complexes).prog 37) (kwd := []) MP.L.ob_eq
    (by kernel_rfl) (fun s => by kernel_rfl) MP.L.runH (by kernel_rfl) (by kernel_rfl) (by kernel_rfl) (by rfl) (by first | assumption | decide +kernel) (by decide +kernel) ⟨rfl, rfl, rfl, rfl, rfl, by decide +kernel⟩ ?hw ?hc
  case hw => w_witness2
  case hc => exact MP.walk_g (l := PySem.Challenge.rw_holestold_k87_wrong_lines_of_complexes) (m := 63) (n := 20) (k := 4) (wl := 400) (f := 28) (el := MP.L.e_law) rfl (by decide) (by kernel_rfl) ⟨rfl, by decide, by decide⟩ MP.L.given rfl (by kernel_rfl) (by rw [show MP.tabP MP.L.es = fun i => MP.L.fl[i]? from funext fun i => (List.getElem?_map).symm]; exact law)
end
section
set_option maxRecDepth 100000
set_option maxHeartbeats 4000000
/-! MPPl: the evaluator's equations, to be rewritten by. -/
namespace MP
open PySem
def R.bl {α : Type} (r : R D) (f : Bool → Store → R α) : R α := r.bind fun x st => match x with
  | .bl k => f k st
  | _ => .bad
@[simp] theorem R.bl_ok {α : Type} {k : Bool} {st : Store} {f : Bool → Store → R α} : (R.ok (.bl k) st).bl f = f k st := (rfl)
@[simp] theorem R.bl_exc {α : Type} {k : Nat} {d : D} {st : Store} {f : Bool → Store → R α} : (R.exc k d st : R D).bl f = .exc k d st := (rfl)
def R.blE (r : R D) (ρ : Sl) (f : Bool → Store → E) : E := r.thn ρ fun x st => match x with
  | .bl k => f k st
  | _ => .bad
@[simp] theorem R.blE_ok {k : Bool} {st : Store} {ρ : Sl} {f : Bool → Store → E} : (R.ok (.bl k) st).blE ρ f = f k st := (rfl)
@[simp] theorem R.blE_exc {k : Nat} {d : D} {st : Store} {ρ : Sl} {f : Bool → Store → E} : (R.exc k d st : R D).blE ρ f = .exc k d ρ st := (rfl)
section
variable {c : Cxt} {ρ : Sl} {st : Store}
theorem e_and {a b : Ex} : ev c (.and a b) ρ st = (ev c a ρ st).bl fun k st => if k then ev c b ρ st else .ok (.bl false) st := by
  rw [ev]
  unfold R.bl
  congr 1
  funext x st
  cases x <;> try rfl
  rename_i k
  cases k <;> rfl
theorem e_or {a b : Ex} : ev c (.or a b) ρ st = (ev c a ρ st).bl fun k st => if k then .ok (.bl true) st else ev c b ρ st := by
  rw [ev]
  unfold R.bl
  congr 1
  funext x st
  cases x <;> try rfl
  rename_i k
  cases k <;> rfl
theorem e_not {a : Ex} : ev c (.not a) ρ st = (ev c a ρ st).bl fun k st => .ok (.bl (!k)) st := by
  rw [ev]
  unfold R.bl
  congr 1
theorem e_ife {t a b : Ex} : ev c (.ife t a b) ρ st = (ev c t ρ st).bl fun k st => if k then ev c a ρ st else ev c b ρ st := by
  rw [ev]
  unfold R.bl
  congr 1
  funext x st
  cases x <;> try rfl
  rename_i k
  cases k <;> rfl
theorem s_ife {t : Ex} {a b : Sms} : ex c (.ife t a b) ρ st = (ev c t ρ st).blE ρ fun k st => if k then exs c a ρ st else exs c b ρ st := by
  rw [ex]
  unfold R.blE
  congr 1
  funext x st
  cases x <;> try rfl
  rename_i k
  cases k <;> rfl
/-- a statement, then the others -/
def E.thn (r : E) (f : Sl → Store → E) : E := match r with
  | .nx ρ st => f ρ st
  | r => r
@[simp] theorem E.thn_nx {ρ : Sl} {st : Store} {f : Sl → Store → E} : (E.nx ρ st).thn f = f ρ st := (rfl)
@[simp] theorem E.thn_rt {d : D} {st : Store} {f : Sl → Store → E} : (E.rt d st).thn f = .rt d st := (rfl)
@[simp] theorem E.thn_bk {ρ : Sl} {st : Store} {f : Sl → Store → E} : (E.bk ρ st).thn f = .bk ρ st := (rfl)
@[simp] theorem E.thn_ct {ρ : Sl} {st : Store} {f : Sl → Store → E} : (E.ct ρ st).thn f = .ct ρ st := (rfl)
@[simp] theorem E.thn_exc {k : Nat} {d : D} {ρ : Sl} {st : Store} {f : Sl → Store → E} : (E.exc k d ρ st).thn f = .exc k d ρ st := (rfl)
theorem ss_nil : exs c .nil ρ st = .nx ρ st := by rw [exs]
theorem ss_cons {s : Sm} {ss : Sms} : exs c (.cons s ss) ρ st = (ex c s ρ st).thn fun ρ st => exs c ss ρ st := by
  rw [exs]
  unfold E.thn
  cases ex c s ρ st <;> rfl
end
section
variable {c : Cxt} {ρ : Sl} {st : Store}
theorem e_nm {i : Nat} {d : D} (h : ρ[i]? = some (some d)) : ev c (.nm i) ρ st = .ok d st := by rw [ev, h]
theorem e_kn {d : D} : ev c (.kn d) ρ st = .ok d st := by rw [ev]
theorem e_con {g : Nat} : ev c (.con g) ρ st = ofO (c.con g) st := by rw [ev]
theorem e_bin {op : Bo} {a b : Ex} : ev c (.bin op a b) ρ st = (ev c a ρ st).bind fun x st => (ev c b ρ st).bind fun y st => ofO (binD st op x y) st := by rw [ev]
theorem e_cmp {op : Co} {a b : Ex} : ev c (.cmp op a b) ρ st = (ev c a ρ st).bind fun x st => (ev c b ρ st).bind fun y st => ofO ((cmpD st op x y).map .bl) st := by rw [ev]
/-- a chain, behind its first two -/
def chnR (o : Option Bool) (st : Store) (r : R D) : R D := match o with
  | some true => r
  | some false => .ok (.bl false) st
  | none => .bad
@[simp] theorem chnR_some {k : Bool} {r : R D} : chnR (some k) st r = if k then r else .ok (.bl false) st := by cases k <;> rfl
theorem e_chn {o p : Co} {a b d : Ex} : ev c (.chn o p a b d) ρ st = (ev c a ρ st).bind fun x st => (ev c b ρ st).bind fun y st => chnR (cmpD st o x y) st ((ev c d ρ st).bind fun z st => ofO ((cmpD st p y z).map .bl) st) := by
  (rw [ev]) <;> rfl
theorem e_lst {es : Exs} : ev c (.lst es) ρ st = (evs c es ρ st).bind fun ds st => if ds.length ≤ line then .ok (.lst ds) st else .bad := by rw [ev]
theorem e_tup {es : Exs} : ev c (.tup es) ρ st = (evs c es ρ st).bind fun ds st => if ds.length ≤ line then .ok (.tup ds) st else .bad := by rw [ev]
theorem e_sub {a b : Ex} : ev c (.sub a b) ρ st = (ev c a ρ st).bind fun x st => (ev c b ρ st).bind fun y st => ofO (subD st x y) st := by rw [ev]
theorem e_slc {a : Ex} {lo hi : Ox} : ev c (.slc a lo hi) ρ st = (ev c a ρ st).bind fun x st => (evo c lo ρ st).bind fun l st => (evo c hi ρ st).bind fun h st => ofO (slcD st x l h) st := by rw [ev]
theorem e_rev {a : Ex} : ev c (.rev a) ρ st = (ev c a ρ st).bind fun x st => ofO ((items st x).map fun xs => .lst xs.reverse) st := by rw [ev]
theorem e_rvb {a : Ex} {n : Nat} : ev c (.rvb a n) ρ st = (ev c a ρ st).bind fun x st => ofO ((items st x).map fun xs => .lst (xs.drop (n + 1)).reverse) st := by rw [ev]
theorem e_cal {f : Nat} {es : Exs} : ev c (.cal f es) ρ st = (evs c es ρ st).bind fun ds st => c.cal f ds st := by rw [ev]
theorem e_fn {f : Nat} : ev c (.fn f) ρ st = .ok (.fn f) st := by rw [ev]
/-- a pure call -/
def purR (r : R D) (st : Store) : R D := match r with
  | .ok d _ => if freeD d then .ok d st else .bad
  | .exc k d _ => if freeD d then .exc k d st else .bad
  | .bad => .bad
@[simp] theorem purR_ok {d : D} {st' : Store} (h : freeD d = true) : purR (.ok d st') st = .ok d st := if_pos h
@[simp] theorem purR_exc {k : Nat} {d : D} {st' : Store} (h : freeD d = true) : purR (.exc k d st') st = .exc k d st := if_pos h
theorem e_pur {f : Nat} {es : Exs} : ev c (.pur f es) ρ st = (evs c es ρ st).bind fun ds st => if freeDs ds then purR (c.cal f ds []) st else .bad := by
  (rw [ev]) <;> rfl
theorem e_blt {b : Bf} {es : Exs} : ev c (.blt b es) ρ st = (evs c es ρ st).bind fun ds st => ofO (bltD st b ds) st := by rw [ev]
theorem a_nil : evs c .nil ρ st = .ok [] st := by rw [evs]
theorem a_cons {e : Ex} {es : Exs} : evs c (.cons e es) ρ st = (ev c e ρ st).bind fun x st => (evs c es ρ st).bind fun xs st => .ok (x :: xs) st := by rw [evs]
theorem o_non : evo c .non ρ st = .ok none st := by rw [evo]
/-- a whole number -/
def intR (x : D) (st : Store) : R (Option Int) := match x with
  | .int i => .ok (some i) st
  | _ => .bad
@[simp] theorem intR_int {i : Int} : intR (.int i) st = .ok (some i) st := (rfl)
theorem o_som {e : Ex} : evo c (.som e) ρ st = (ev c e ρ st).bind fun x st => intR x st := by
  (rw [evo]) <;> rfl
theorem s_set {i : Nat} {e : Ex} : ex c (.set i e) ρ st = (ev c e ρ st).thn ρ fun d st => ofS (set1 i d ρ) st := by rw [ex]
theorem s_exp {e : Ex} : ex c (.exp e) ρ st = (ev c e ρ st).thn ρ fun _ st => .nx ρ st := by rw [ex]
theorem s_ret {e : Ex} : ex c (.ret e) ρ st = (ev c e ρ st).thn ρ fun d st => .rt d st := by rw [ex]
theorem s_rai {k : Nat} {e : Ex} : ex c (.rai k e) ρ st = (ev c e ρ st).thn ρ fun d st => .exc k d ρ st := by rw [ex]
end
/-! ### comprehensions -/
/-- an element of a comprehension -/
def elt (c : Cxt) (x : Ex) (tg : List Nat) (tp : Bool) (i : Ox) (ρ : Sl) (d : D) (st : Store) : R (Option D) := match asgT tg tp d ρ with
  | none => .bad
  | some ρ1 => (evt c i ρ1 st).bind fun b st => if b then (ev c x ρ1 st).bind fun y st => .ok (some y) st else .ok none st
theorem e_lc {c : Cxt} {ρ : Sl} {st : Store} {x : Ex} {tg : List Nat} {tp : Bool} {s : Sr} {i : Ox} {own : List Nat} : ev c (.lc x tg tp s i own) ρ st = (evw c s ρ st).bind fun w st => (noExc (lcGo w (elt c x tg tp i (wipe ρ own)) w.its [] st)).bind fun ys st => .ok (.lst ys) st := by
  (rw [ev]) <;> rfl
theorem lcGo_pure {w : Walk} {f : D → Store → R (Option D)} {g : D → Option D} {st : Store} (hw : still w st = true) : ∀ (ds acc : List D), (∀ d ∈ ds, f d st = .ok (g d) st) → acc.length + ds.length ≤ line → lcGo w f ds acc st = .ok (acc ++ ds.filterMap g) st
  | [], acc, _, _ => by
    unfold lcGo
    rw [if_pos hw]
    simp
  | d :: ds, acc, h, hl => by
    unfold lcGo
    rw [if_pos hw, h d List.mem_cons_self]
    have hl : acc.length + (ds.length + 1) ≤ line := hl
    have h' : ∀ e ∈ ds, f e st = .ok (g e) st := fun e he => h e (List.mem_cons_of_mem _ he)
    cases hg : g d with
    | none =>
      rw [R.bind_ok]
      show lcGo w f ds acc st = _
      rw [lcGo_pure hw ds acc h' (by omega), List.filterMap_cons_none hg]
    | some y =>
      rw [R.bind_ok]
      show (if acc.length < line then lcGo w f ds (acc ++ [y]) st else .bad) = _
      rw [if_pos (by omega), lcGo_pure hw ds (acc ++ [y]) h' (by rw [List.length_append]; simp only [List.length_cons, List.length_nil]; omega), List.filterMap_cons_some hg, List.append_assoc]
      rfl
theorem e_lcP {c : Cxt} {ρ : Sl} {st : Store} {x : Ex} {tg : List Nat} {tp : Bool} {s : Sr} {i : Ox} {own : List Nat} {w : Walk} {g : D → Option D} (h : evw c s ρ st = .ok w st) (hw : still w st = true) (hl : w.its.length ≤ line) (hd : ∀ d ∈ w.its, elt c x tg tp i (wipe ρ own) d st = .ok (g d) st) :
    ev c (.lc x tg tp s i own) ρ st = .ok (.lst (w.its.filterMap g)) st := by
  rw [e_lc, h, R.bind_ok, lcGo_pure hw w.its [] hd (by simpa using hl)]
  rfl
/-! ### loops -/
def E.turn (r : E) (k : Sl → Store → E) : E := match r with
  | .nx ρ st => k ρ st
  | .ct ρ st => k ρ st
  | .bk ρ st => .nx ρ st
  | r => r
@[simp] theorem E.turn_nx {ρ : Sl} {st : Store} {k : Sl → Store → E} : (E.nx ρ st).turn k = k ρ st := (rfl)
@[simp] theorem E.turn_ct {ρ : Sl} {st : Store} {k : Sl → Store → E} : (E.ct ρ st).turn k = k ρ st := (rfl)
@[simp] theorem E.turn_bk {ρ : Sl} {st : Store} {k : Sl → Store → E} : (E.bk ρ st).turn k = .nx ρ st := (rfl)
@[simp] theorem E.turn_rt {d : D} {st : Store} {k : Sl → Store → E} : (E.rt d st).turn k = .rt d st := (rfl)
@[simp] theorem E.turn_exc {i : Nat} {d : D} {ρ : Sl} {st : Store} {k : Sl → Store → E} : (E.exc i d ρ st).turn k = .exc i d ρ st := (rfl)
theorem for_nil {w : Walk} {f : D → Sl → Store → E} {ρ : Sl} {st : Store} (h : still w st = true) : forGo w f [] ρ st = .nx ρ st := by
  unfold forGo
  rw [if_pos h]
theorem for_cons {w : Walk} {f : D → Sl → Store → E} {d : D} {ds : List D} {ρ : Sl} {st : Store} (h : still w st = true) : forGo w f (d :: ds) ρ st = (f d ρ st).turn fun ρ st => forGo w f ds ρ st := by
  rw [forGo, if_pos h]
  unfold E.turn
  cases f d ρ st <;> rfl
/-- one turn of a for -/
def forT (c : Cxt) (tg : List Nat) (tp : Bool) (b : Sms) (d : D) (ρ : Sl) (st : Store) : E := match asgT tg tp d ρ with
  | some ρ => exs c b ρ st
  | none => .bad
theorem s_for {c : Cxt} {ρ : Sl} {st : Store} {tg : List Nat} {tp : Bool} {s : Sr} {b : Sms} : ex c (.for_ tg tp s b) ρ st = (evw c s ρ st).thn ρ fun w st => forGo w (forT c tg tp b) w.its ρ st := by
  (rw [ex]) <;> rfl
/-- a loop with an invariant: all turns go through -/
theorem for_inv {w : Walk} {f : D → Sl → Store → E} (I : List D → Sl → Store → Prop) (hs : ∀ ds ρ st, I ds ρ st → still w st = true) (hstep : ∀ d ds ρ st, I (d :: ds) ρ st → ∃ ρ' st', (f d ρ st = .nx ρ' st' ∨ f d ρ st = .ct ρ' st') ∧ I ds ρ' st') :
    ∀ ds ρ st, I ds ρ st → ∃ ρ' st', forGo w f ds ρ st = .nx ρ' st' ∧ I [] ρ' st'
  | [], ρ, st, h => ⟨ρ, st, for_nil (hs _ _ _ h), h⟩
  | d :: ds, ρ, st, h => by
    obtain ⟨ρ', st', e, h'⟩ := hstep d ds ρ st h
    obtain ⟨ρ2, st2, e2, h2⟩ := for_inv I hs hstep ds ρ' st' h'
    refine ⟨ρ2, st2, ?_, h2⟩
    rw [for_cons (hs _ _ _ h)]
    rcases e with e | e <;> rw [e] <;> exact e2
/-! ### built-ins, operators -/
def allB (bs : List Bool) : Bool := bs.all id
def anyB (bs : List Bool) : Bool := bs.any id
@[simp] theorem allB_nil : allB [] = true := (rfl)
@[simp] theorem anyB_nil : anyB [] = false := (rfl)
theorem allB_map {α : Type} {f : α → Bool} {xs : List α} : allB (xs.map f) = xs.all f := by
  unfold allB
  rw [List.all_map]
  rfl
theorem anyB_map {α : Type} {f : α → Bool} {xs : List α} : anyB (xs.map f) = xs.any f := by
  unfold anyB
  rw [List.any_map]
  rfl

@[simp] theorem chnR_ok {k j : Bool} {st : Store} : chnR (some k) st (.ok (.bl j) st) = .ok (.bl (k && j)) st := by cases k <;> rfl
section
variable {st : Store} {a b d : D} {ds : List D}
@[simp] theorem bl_len : bltD st .len [a] = (lenD st a).map fun (n : Nat) => .int (n : Int) := (rfl)
@[simp] theorem bl_any : bltD st .any [a] = ((items st a).bind blsD).map fun bs => .bl (anyB bs) := (rfl)
@[simp] theorem bl_all : bltD st .all [a] = ((items st a).bind blsD).map fun bs => .bl (allB bs) := (rfl)
@[simp] theorem bl_isi {t : Ty} : bltD st (.isi t) [a] = (isiD st t a).map .bl := (rfl)
@[simp] theorem bl_isis {ts : List Ty} : bltD st (.isis ts) [a] = (tysIs st ts a).map .bl := (rfl)
@[simp] theorem bl_repr : bltD st .repr [a] = (reprD st a).map .str := (rfl)
@[simp] theorem bl_sorted : bltD st .sorted [a] = sortD st a := (rfl)
@[simp] theorem bl_listL : bltD st .list [.lst ds] = some (.lst ds) := (rfl)
@[simp] theorem bl_listT : bltD st .list [.tup ds] = some (.lst ds) := (rfl)
@[simp] theorem bl_int {i : Int} : bltD st .int [.int i] = some (.int i) := (rfl)
@[simp] theorem bl_intS {z : Str} : bltD st .int [.str z] = if z.length ≤ 640 then (intText? z).map .int else none := (rfl)
@[simp] theorem bl_strI {i : Int} : bltD st .str [.int i] = if i.natAbs.log2 < 1920 then some (.str (toString i)) else none := (rfl)
@[simp] theorem len_lst : lenD st (.lst ds) = some ds.length := (rfl)
@[simp] theorem len_tup : lenD st (.tup ds) = some ds.length := (rfl)
theorem len_str {z : Str} (h : z.length ≤ line) : lenD st (.str z) = some z.length := if_pos h
@[simp] theorem it_lst : items st (.lst ds) = some ds := (rfl)
@[simp] theorem c_ltI {i j : Int} : cmpD st .lt (.int i) (.int j) = some (decide (i < j)) := (rfl)
@[simp] theorem c_leI {i j : Int} : cmpD st .le (.int i) (.int j) = some (decide (i ≤ j)) := (rfl)
@[simp] theorem c_gtI {i j : Int} : cmpD st .gt (.int i) (.int j) = some (decide (j < i)) := (rfl)
@[simp] theorem c_geI {i j : Int} : cmpD st .ge (.int i) (.int j) = some (decide (j ≤ i)) := (rfl)
@[simp] theorem c_is : cmpD st .is_ a b = isD a b := (rfl)
@[simp] theorem c_isn : cmpD st .isn a b = (isD a b).map (!·) := (rfl)
@[simp] theorem c_eq : cmpD st .eq a b = eqD st a b := (rfl)
@[simp] theorem c_ne : cmpD st .ne a b = (eqD st a b).map (!·) := (rfl)
@[simp] theorem c_in : cmpD st .isin a b = inD st a b := (rfl)
@[simp] theorem c_nin : cmpD st .nin a b = (inD st a b).map (!·) := (rfl)
@[simp] theorem is_non : isD a .non = some (nonB a) := (rfl)
@[simp] theorem is_bl {k : Bool} : isD a (.bl k) = some (blB k a) := (rfl)
end
end MP
end
section
set_option maxRecDepth 100000
set_option maxHeartbeats 4000000
/-! MPSx: the evaluator by simp alone. -/
namespace MP
open PySem
/-! ### ifs pushed out -/
section
variable {p : Prop} [Decidable p]
@[simp] theorem bind_ite {α β : Type} {a b : R α} {f : α → Store → R β} : (if p then a else b).bind f = if p then a.bind f else b.bind f := by split <;> rfl
@[simp] theorem bl_ite {α : Type} {a b : R D} {f : Bool → Store → R α} : (if p then a else b).bl f = if p then a.bl f else b.bl f := by split <;> rfl
@[simp] theorem thn_ite {α : Type} {a b : R α} {ρ : Sl} {f : α → Store → E} : (if p then a else b).thn ρ f = if p then a.thn ρ f else b.thn ρ f := by split <;> rfl
@[simp] theorem blE_ite {a b : R D} {ρ : Sl} {f : Bool → Store → E} : (if p then a else b).blE ρ f = if p then a.blE ρ f else b.blE ρ f := by split <;> rfl
@[simp] theorem Ethn_ite {a b : E} {f : Sl → Store → E} : (if p then a else b).thn f = if p then a.thn f else b.thn f := by split <;> rfl
@[simp] theorem Eturn_ite {a b : E} {f : Sl → Store → E} : (if p then a else b).turn f = if p then a.turn f else b.turn f := by split <;> rfl
@[simp] theorem ofO_ite {α : Type} {a b : Option α} {st : Store} : ofO (if p then a else b) st = if p then ofO a st else ofO b st := by split <;> rfl
@[simp] theorem Omap_ite {α β : Type} {a b : Option α} {f : α → β} : (if p then a else b).map f = if p then a.map f else b.map f := by split <;> rfl
@[simp] theorem Obind_ite {α β : Type} {a b : Option α} {f : α → Option β} : (if p then a else b).bind f = if p then a.bind f else b.bind f := by split <;> rfl
@[simp] theorem R_and {q : Bool} {st : Store} : (if p then (R.ok (.bl q) st : R D) else .ok (.bl false) st) = .ok (.bl (decide p && q)) st := by split <;> simp [*]
@[simp] theorem R_or {q : Bool} {st : Store} : (if p then (R.ok (.bl true) st : R D) else .ok (.bl q) st) = .ok (.bl (decide p || q)) st := by split <;> simp [*]
@[simp] theorem R_andB {q : Bool} {st : Store} : (if p then (R.ok q st : R Bool) else .ok false st) = .ok (decide p && q) st := by split <;> simp [*]
end
/-! ### names -/
def nmR (o : Option (Option D)) (st : Store) : R D := match o with
  | some (some d) => .ok d st
  | _ => .bad
@[simp] theorem nmR_some {d : D} {st : Store} : nmR (some (some d)) st = .ok d st := (rfl)
section
variable {c : Cxt} {ρ : Sl} {st : Store}
@[simp] theorem x_nm {i : Nat} : ev c (.nm i) ρ st = nmR ρ[i]? st := by (rw [ev]) <;> rfl
@[simp] theorem x_kn {d : D} : ev c (.kn d) ρ st = .ok d st := e_kn
@[simp] theorem x_con {g : Nat} : ev c (.con g) ρ st = ofO (c.con g) st := e_con
@[simp] theorem x_bin {op : Bo} {a b : Ex} : ev c (.bin op a b) ρ st = (ev c a ρ st).bind fun x st => (ev c b ρ st).bind fun y st => ofO (binD st op x y) st := e_bin
@[simp] theorem x_cmp {op : Co} {a b : Ex} : ev c (.cmp op a b) ρ st = (ev c a ρ st).bind fun x st => (ev c b ρ st).bind fun y st => ofO ((cmpD st op x y).map .bl) st := e_cmp
@[simp] theorem x_chn {o p : Co} {a b d : Ex} : ev c (.chn o p a b d) ρ st = (ev c a ρ st).bind fun x st => (ev c b ρ st).bind fun y st => chnR (cmpD st o x y) st ((ev c d ρ st).bind fun z st => ofO ((cmpD st p y z).map .bl) st) := e_chn
@[simp] theorem x_and {a b : Ex} : ev c (.and a b) ρ st = (ev c a ρ st).bl fun k st => if k then ev c b ρ st else .ok (.bl false) st := e_and
@[simp] theorem x_or {a b : Ex} : ev c (.or a b) ρ st = (ev c a ρ st).bl fun k st => if k then .ok (.bl true) st else ev c b ρ st := e_or
@[simp] theorem x_not {a : Ex} : ev c (.not a) ρ st = (ev c a ρ st).bl fun k st => .ok (.bl (!k)) st := e_not
@[simp] theorem x_ife {t a b : Ex} : ev c (.ife t a b) ρ st = (ev c t ρ st).bl fun k st => if k then ev c a ρ st else ev c b ρ st := e_ife
@[simp] theorem x_lst {es : Exs} : ev c (.lst es) ρ st = (evs c es ρ st).bind fun ds st => if ds.length ≤ line then .ok (.lst ds) st else .bad := e_lst
@[simp] theorem x_tup {es : Exs} : ev c (.tup es) ρ st = (evs c es ρ st).bind fun ds st => if ds.length ≤ line then .ok (.tup ds) st else .bad := e_tup
@[simp] theorem x_dic0 : ev c .dic0 ρ st = .ok (.dic []) st := by rw [ev]
@[simp] theorem x_sub {a b : Ex} : ev c (.sub a b) ρ st = (ev c a ρ st).bind fun x st => (ev c b ρ st).bind fun y st => ofO (subD st x y) st := e_sub
@[simp] theorem x_slc {a : Ex} {lo hi : Ox} : ev c (.slc a lo hi) ρ st = (ev c a ρ st).bind fun x st => (evo c lo ρ st).bind fun l st => (evo c hi ρ st).bind fun h st => ofO (slcD st x l h) st := e_slc
@[simp] theorem x_rev {a : Ex} : ev c (.rev a) ρ st = (ev c a ρ st).bind fun x st => ofO ((items st x).map fun xs => .lst xs.reverse) st := e_rev
@[simp] theorem x_rvb {a : Ex} {n : Nat} : ev c (.rvb a n) ρ st = (ev c a ρ st).bind fun x st => ofO ((items st x).map fun xs => .lst (xs.drop (n + 1)).reverse) st := e_rvb
@[simp] theorem x_cal {f : Nat} {es : Exs} : ev c (.cal f es) ρ st = (evs c es ρ st).bind fun ds st => c.cal f ds st := e_cal
@[simp] theorem x_fn {f : Nat} : ev c (.fn f) ρ st = .ok (.fn f) st := e_fn
@[simp] theorem x_pur {f : Nat} {es : Exs} : ev c (.pur f es) ρ st = (evs c es ρ st).bind fun ds st => if freeDs ds then purR (c.cal f ds []) st else .bad := e_pur
@[simp] theorem x_blt {b : Bf} {es : Exs} : ev c (.blt b es) ρ st = (evs c es ρ st).bind fun ds st => ofO (bltD st b ds) st := e_blt
@[simp] theorem y_nil : evs c .nil ρ st = .ok [] st := a_nil
@[simp] theorem y_cons {e : Ex} {es : Exs} : evs c (.cons e es) ρ st = (ev c e ρ st).bind fun x st => (evs c es ρ st).bind fun xs st => .ok (x :: xs) st := a_cons
@[simp] theorem z_non : evo c .non ρ st = .ok none st := o_non
@[simp] theorem z_som {e : Ex} : evo c (.som e) ρ st = (ev c e ρ st).bind fun x st => intR x st := o_som
def negR (x : D) (st : Store) : R D := match x with
  | .int i => .ok (.int (-i)) st
  | _ => .bad
@[simp] theorem negR_int {i : Int} : negR (.int i) st = .ok (.int (-i)) st := (rfl)
@[simp] theorem x_neg {a : Ex} : ev c (.neg a) ρ st = (ev c a ρ st).bind fun x st => negR x st := by (rw [ev]) <;> rfl
def cavR (c : Cxt) (o : Option (Option D)) (r : R (List D)) : R D := match o with
  | some (some (.fn f)) => if f < c.nf then r.bind fun ds st => c.cal f ds st else .bad
  | _ => .bad
@[simp] theorem cavR_fn {f : Nat} {r : R (List D)} : cavR c (some (some (.fn f))) r = if f < c.nf then r.bind fun ds st => c.cal f ds st else .bad := (rfl)
@[simp] theorem x_cav {i : Nat} {es : Exs} : ev c (.cav i es) ρ st = cavR c ρ[i]? (evs c es ρ st) := by (rw [ev]) <;> rfl
def cakR (c : Cxt) (f : Nat) (o : Option (List D)) (st : Store) : R D := match o with
  | some rs => c.cal f rs st
  | none => .bad
@[simp] theorem cakR_some {f : Nat} {rs : List D} : cakR c f (some rs) st = c.cal f rs st := (rfl)
@[simp] theorem x_cak {f : Nat} {es ks : Exs} {ix : List Nat} : ev c (.cak f es ks ix) ρ st = (evs c es ρ st).bind fun ds st => (evs c ks ρ st).bind fun es st => cakR c f (pick ix (ds ++ es)) st := by (rw [ev]) <;> rfl
def valR (x : D) (st : Store) : R D := match x with
  | .exv _ d => .ok d st
  | _ => .bad
@[simp] theorem valR_exv {k : Nat} {d : D} : valR (.exv k d) st = .ok d st := (rfl)
@[simp] theorem x_val {e : Ex} : ev c (.val e) ρ st = (ev c e ρ st).bind fun x st => valR x st := by (rw [ev]) <;> rfl
def metR (o : Option (D × Store)) : R D := match o with
  | some p => .ok p.1 p.2
  | none => .bad
@[simp] theorem metR_some {p : D × Store} : metR (some p) = .ok p.1 p.2 := (rfl)
@[simp] theorem metR_ite {p : Prop} [Decidable p] {a b : Option (D × Store)} : metR (if p then a else b) = if p then metR a else metR b := by split <;> rfl
@[simp] theorem metR_none : metR none = .bad := (rfl)
@[simp] theorem x_met {m : Mt} {a : Ex} {es : Exs} : ev c (.met m a es) ρ st = (ev c a ρ st).bind fun x st => if metTy st m x then (evs c es ρ st).bind fun ds st => metR (metD st m x ds) else .bad := by
  rw [ev]
  congr 1
  funext x st
  split
  · congr 1
    funext ds st
    cases metD st m x ds <;> rfl
  · rfl
def mkR (x : D) (st : Store) : R D := match x with
  | .lst ds => .ok (.cel st.length) (st ++ [.lst ds])
  | _ => .bad
@[simp] theorem mkR_lst {ds : List D} : mkR (.lst ds) st = .ok (.cel st.length) (st ++ [.lst ds]) := (rfl)
@[simp] theorem x_mk {e : Ex} : ev c (.mk e) ρ st = (ev c e ρ st).bind fun x st => mkR x st := by (rw [ev]) <;> rfl
def frzC (k : Nat) (o : Option Cell) (st : Store) : R D := match o with
  | some (.lst ds) => .ok (.lst ds) (st.set k .gone)
  | _ => .bad
@[simp] theorem frzC_lst {k : Nat} {ds : List D} : frzC k (some (.lst ds)) st = .ok (.lst ds) (st.set k .gone) := (rfl)
def frzR (x : D) (st : Store) : R D := match x with
  | .cel k => frzC k st[k]? st
  | _ => .bad
@[simp] theorem frzR_cel {k : Nat} : frzR (.cel k) st = frzC k st[k]? st := (rfl)
@[simp] theorem x_frz {e : Ex} : ev c (.frz e) ρ st = (ev c e ρ st).bind fun x st => frzR x st := by
  rw [ev]
  congr 1
/-! ### statements -/
@[simp] theorem t_nil : exs c .nil ρ st = .nx ρ st := ss_nil
@[simp] theorem t_cons {s : Sm} {ss : Sms} : exs c (.cons s ss) ρ st = (ex c s ρ st).thn fun ρ st => exs c ss ρ st := ss_cons
@[simp] theorem t_set {i : Nat} {e : Ex} : ex c (.set i e) ρ st = (ev c e ρ st).thn ρ fun d st => ofS (set1 i d ρ) st := s_set
@[simp] theorem t_exp {e : Ex} : ex c (.exp e) ρ st = (ev c e ρ st).thn ρ fun _ st => .nx ρ st := s_exp
@[simp] theorem t_ret {e : Ex} : ex c (.ret e) ρ st = (ev c e ρ st).thn ρ fun d st => .rt d st := s_ret
@[simp] theorem t_rai {k : Nat} {e : Ex} : ex c (.rai k e) ρ st = (ev c e ρ st).thn ρ fun d st => .exc k d ρ st := s_rai
@[simp] theorem t_ife {t : Ex} {a b : Sms} : ex c (.ife t a b) ρ st = (ev c t ρ st).blE ρ fun k st => if k then exs c a ρ st else exs c b ρ st := s_ife
@[simp] theorem t_for {tg : List Nat} {tp : Bool} {s : Sr} {b : Sms} : ex c (.for_ tg tp s b) ρ st = (evw c s ρ st).thn ρ fun w st => forGo w (forT c tg tp b) w.its ρ st := s_for
@[simp] theorem t_par {is : List Nat} {es : Exs} : ex c (.par is es) ρ st = (evs c es ρ st).thn ρ fun ds st => ofS (asg1 is ds ρ) st := by rw [ex]
@[simp] theorem t_unp {is : List Nat} {e : Ex} : ex c (.unp is e) ρ st = (ev c e ρ st).thn ρ fun d st => ofS (asgT is true d ρ) st := by rw [ex]
@[simp] theorem t_brk : ex c .brk ρ st = .bk ρ st := by rw [ex]
@[simp] theorem t_cnt : ex c .cnt ρ st = .ct ρ st := by rw [ex]
@[simp] theorem t_pas : ex c .pas ρ st = .nx ρ st := by rw [ex]
def stO (o : Option Store) (ρ : Sl) : E := match o with
  | some st => .nx ρ st
  | none => .bad
@[simp] theorem stO_some : stO (some st) ρ = .nx ρ st := (rfl)
@[simp] theorem t_sti {a i e : Ex} : ex c (.sti a i e) ρ st = (ev c e ρ st).thn ρ fun d st => (ev c a ρ st).thn ρ fun x st => (ev c i ρ st).thn ρ fun y st => stO (stiD st x y d) ρ := by (rw [ex]) <;> rfl
def augI (op : Bo) (i : Nat) (a : Int) (y : D) (ρ : Sl) (st : Store) : E := match y with
  | .int b => (match binI op a b with
    | some z => ofS (set1 i z ρ) st
    | none => .bad)
  | _ => .bad
def binE (o : Option D) (i : Nat) (ρ : Sl) (st : Store) : E := match o with
  | some z => ofS (set1 i z ρ) st
  | none => .bad
@[simp] theorem binE_some {z : D} {i : Nat} : binE (some z) i ρ st = ofS (set1 i z ρ) st := (rfl)
@[simp] theorem augI_int {op : Bo} {i : Nat} {a b : Int} : augI op i a (.int b) ρ st = binE (binI op a b) i ρ st := by
  unfold augI binE
  rfl
def augR (op : Bo) (i : Nat) (o : Option (Option D)) (r : R D) (ρ : Sl) : E := match o with
  | some (some (.int a)) => r.thn ρ fun y st => augI op i a y ρ st
  | _ => .bad
@[simp] theorem augR_int {op : Bo} {i : Nat} {a : Int} {r : R D} : augR op i (some (some (.int a))) r ρ = r.thn ρ fun y st => augI op i a y ρ st := (rfl)
@[simp] theorem t_aug {i : Nat} {op : Bo} {e : Ex} : ex c (.aug i op e) ρ st = augR op i ρ[i]? (ev c e ρ st) ρ := by (rw [ex]) <;> rfl
def agiZ (a i : D) (o : Option D) (ρ : Sl) (st : Store) : E := match o with
  | some z => stO (stiD st a i z) ρ
  | none => .bad
@[simp] theorem agiZ_some {a i z : D} : agiZ a i (some z) ρ st = stO (stiD st a i z) ρ := (rfl)
def agiQ (op : Bo) (a i : D) (p : Int) (q : D) (ρ : Sl) (st : Store) : E := match q with
  | .int q => agiZ a i (binI op p q) ρ st
  | _ => .bad
@[simp] theorem agiQ_int {op : Bo} {a i : D} {p q : Int} : agiQ op a i p (.int q) ρ st = agiZ a i (binI op p q) ρ st := (rfl)
def agiP (c : Cxt) (op : Bo) (e : Ex) (a i : D) (o : Option D) (ρ : Sl) (st : Store) : E := match o with
  | some (.int p) => (ev c e ρ st).thn ρ fun q st => agiQ op a i p q ρ st
  | _ => .bad
@[simp] theorem agiP_int {op : Bo} {e : Ex} {a i : D} {p : Int} : agiP c op e a i (some (.int p)) ρ st = (ev c e ρ st).thn ρ fun q st => agiQ op a i p q ρ st := (rfl)
@[simp] theorem t_agi {a i : Ex} {op : Bo} {e : Ex} : ex c (.agi a i op e) ρ st = (ev c a ρ st).thn ρ fun x st => (ev c i ρ st).thn ρ fun y st => agiP c op e x y (getD st x y) ρ st := by (rw [ex]) <;> rfl
def triR (cs no : List Nat) (h : Hn) (i : Nat) (r : E) : E := match r with
  | .exc k d ρ st => if cs.contains k then hnd h i k d ρ st else if no.contains k then .exc k d ρ st else .bad
  | r => r
@[simp] theorem triR_exc {cs no : List Nat} {h : Hn} {i k : Nat} {d : D} : triR cs no h i (.exc k d ρ st) = if cs.contains k then hnd h i k d ρ st else if no.contains k then .exc k d ρ st else .bad := (rfl)
@[simp] theorem triR_nx {cs no : List Nat} {h : Hn} {i : Nat} : triR cs no h i (.nx ρ st) = .nx ρ st := (rfl)
@[simp] theorem triR_rt {cs no : List Nat} {h : Hn} {i : Nat} {d : D} : triR cs no h i (.rt d st) = .rt d st := (rfl)
@[simp] theorem triR_ite {cs no : List Nat} {h : Hn} {i : Nat} {p : Prop} [Decidable p] {a b : E} : triR cs no h i (if p then a else b) = if p then triR cs no h i a else triR cs no h i b := by split <;> rfl
@[simp] theorem t_tri {b : Sms} {cs no : List Nat} {i : Nat} {h : Hn} : ex c (.tri b cs no i h) ρ st = triR cs no h i (exs c b ρ st) := by (rw [ex]) <;> rfl
@[simp] theorem hnd_keep {i j k : Nat} {d : D} : hnd (.keep j) i k d ρ st = if decide (i < ρ.length) && decide (j < ρ.length) && decide (i ≠ j) then .nx ((ρ.set j (some (.exv k d))).set i none) st else .bad := (rfl)
/-! ### sources -/
def lisW (x : D) (st : Store) : R Walk := match x with
  | .lst ds => .ok { its := ds } st
  | .scr ns => .ok { its := ns.map .int } st
  | .cel k => match st[k]? with
    | some (.lst ds) => .ok { its := ds, cell := some k } st
    | _ => .bad
  | _ => .bad
@[simp] theorem lisW_lst {ds : List D} : lisW (.lst ds) st = .ok { its := ds } st := (rfl)
@[simp] theorem lisW_scr {ns : List Int} : lisW (.scr ns) st = .ok { its := ns.map .int } st := (rfl)
theorem lisW_cel {k : Nat} {ds : List D} (h : st[k]? = some (.lst ds)) : lisW (.cel k) st = .ok { its := ds, cell := some k } st := by
  show (match st[k]? with | some (.lst ds) => _ | _ => _) = _
  rw [h]
@[simp] theorem w_lis {e : Ex} : evw c (.lis e) ρ st = (ev c e ρ st).bind fun x st => lisW x st := by (rw [evw]) <;> rfl
def tplW (x : D) (st : Store) : R Walk := match x with
  | .tup ds => .ok { its := ds } st
  | _ => .bad
@[simp] theorem tplW_tup {ds : List D} : tplW (.tup ds) st = .ok { its := ds } st := (rfl)
@[simp] theorem w_tpl {e : Ex} : evw c (.tpl e) ρ st = (ev c e ρ st).bind fun x st => tplW x st := by (rw [evw]) <;> rfl
def txtW (x : D) (st : Store) : R Walk := match x with
  | .str z => .ok { its := z.cps.toList.map fun k => .str ⟨#[k]⟩ } st
  | _ => .bad
@[simp] theorem txtW_str {z : Str} : txtW (.str z) st = .ok { its := z.cps.toList.map fun k => .str ⟨#[k]⟩ } st := (rfl)
@[simp] theorem w_txt {e : Ex} : evw c (.txt e) ρ st = (ev c e ρ st).bind fun x st => txtW x st := by (rw [evw]) <;> rfl
def rg1W (x : D) (st : Store) : R Walk := match x with
  | .int n => if -(2 ^ 62) ≤ n ∧ n < 2 ^ 62 then .ok { its := (List.range n.toNat).map fun (k : Nat) => .int (k : Int) } st else .bad
  | _ => .bad
@[simp] theorem rg1W_int {n : Int} : rg1W (.int n) st = if -(2 ^ 62) ≤ n ∧ n < 2 ^ 62 then .ok { its := (List.range n.toNat).map fun (k : Nat) => .int (k : Int) } st else .bad := (rfl)
@[simp] theorem w_rg1 {e : Ex} : evw c (.rg1 e) ρ st = (ev c e ρ st).bind fun x st => rg1W x st := by
  rw [evw]
  congr 1
  funext x st
  cases x <;> try rfl
  unfold rg1W
  simp only [Bool.and_eq_true, decide_eq_true_eq]
def rg2W (x y : D) (st : Store) : R Walk := match x, y with
  | .int l, .int h => if -(2 ^ 62) ≤ l ∧ l < 2 ^ 62 ∧ -(2 ^ 62) ≤ h ∧ h < 2 ^ 62 then .ok { its := (List.range (h - l).toNat).map fun (k : Nat) => .int (l + (k : Int)) } st else .bad
  | _, _ => .bad
@[simp] theorem rg2W_int {l h : Int} : rg2W (.int l) (.int h) st = if -(2 ^ 62) ≤ l ∧ l < 2 ^ 62 ∧ -(2 ^ 62) ≤ h ∧ h < 2 ^ 62 then .ok { its := (List.range (h - l).toNat).map fun (k : Nat) => .int (l + (k : Int)) } st else .bad := (rfl)
@[simp] theorem w_rg2 {a b : Ex} : evw c (.rg2 a b) ρ st = (ev c a ρ st).bind fun x st => (ev c b ρ st).bind fun y st => rg2W x y st := by
  rw [evw]
  congr 1
  funext x st
  congr 1
  funext y st
  cases x <;> try rfl
  cases y <;> try rfl
  unfold rg2W
  simp only [Bool.and_eq_true, decide_eq_true_eq, and_assoc]
def enuW (x : D) (st : Store) : R Walk := match x with
  | .lst ds => .ok { its := pairs 0 ds } st
  | _ => .bad
@[simp] theorem enuW_lst {ds : List D} : enuW (.lst ds) st = .ok { its := pairs 0 ds } st := (rfl)
@[simp] theorem w_enu {e : Ex} : evw c (.enu e) ρ st = (ev c e ρ st).bind fun x st => enuW x st := by (rw [evw]) <;> rfl
def zipW (x y : D) (st : Store) : R Walk := match x, y with
  | .lst xs, .lst ys => if xs.length = ys.length then .ok { its := (xs.zip ys).map fun p => .tup [p.1, p.2] } st else .bad
  | .tup xs, .tup ys => if xs.length = ys.length then .ok { its := (xs.zip ys).map fun p => .tup [p.1, p.2] } st else .bad
  | _, _ => .bad
@[simp] theorem zipW_lst {xs ys : List D} : zipW (.lst xs) (.lst ys) st = if xs.length = ys.length then .ok { its := (xs.zip ys).map fun p => .tup [p.1, p.2] } st else .bad := (rfl)
@[simp] theorem zipW_tup {xs ys : List D} : zipW (.tup xs) (.tup ys) st = if xs.length = ys.length then .ok { its := (xs.zip ys).map fun p => .tup [p.1, p.2] } st else .bad := (rfl)
@[simp] theorem w_zip {b : Bool} {x y : Ex} : evw c (.zip b x y) ρ st = (ev c x ρ st).bind fun x st => (ev c y ρ st).bind fun y st => zipW x y st := by (rw [evw]) <;> rfl
end
/-! ### comprehensions over what can't change -/
def lcP {α : Type} (f : α → Store → R (Option D)) : List α → List D → Store → R (List D)
  | [], acc, st => .ok acc st
  | x :: xs, acc, st => (f x st).bind fun o st => match o with
    | some y => if acc.length < line then lcP f xs (acc ++ [y]) st else .bad
    | none => lcP f xs acc st
/-- the list that comes of it -/
def lcR {α : Type} (f : α → Store → R (Option D)) (xs : List α) (st : Store) : R D := (noExc (lcP f xs [] st)).bind fun ys st => .ok (.lst ys) st
theorem lcGo_lcP {w : Walk} (hw : w.cell = none) (f : D → Store → R (Option D)) : ∀ (ds acc : List D) (st : Store), lcGo w f ds acc st = lcP f ds acc st
  | [], acc, st => by
    have : still w st = true := by unfold still; rw [hw]
    rw [lcGo, if_pos this]; rfl
  | d :: ds, acc, st => by
    have : still w st = true := by unfold still; rw [hw]
    rw [lcGo, if_pos this, lcP]
    congr 1
    funext o st
    cases o with
    | none => exact lcGo_lcP hw f ds acc st
    | some y => simp only [lcGo_lcP hw f ds]
theorem lcP_map {α : Type} {enc : α → D} {f : D → Store → R (Option D)} : ∀ (xs : List α) (acc : List D) (st : Store), lcP f (xs.map enc) acc st = lcP (fun x => f (enc x)) xs acc st
  | [], acc, st => rfl
  | x :: xs, acc, st => by
    rw [List.map_cons, lcP, lcP]
    congr 1
    funext o st
    cases o with
    | none => exact lcP_map xs acc st
    | some y => simp only [lcP_map xs]
@[simp] theorem lcR_mapI {α : Type} {enc : α → D} {f : D → Store → R (Option D)} {xs : List α} {st : Store} : lcR f (xs.map enc) st = lcR (fun x => f (enc x)) xs st := by
  unfold lcR
  rw [lcP_map]
def lcW (f : D → Store → R (Option D)) (w : Walk) (st : Store) : R D := (noExc (lcGo w f w.its [] st)).bind fun ys st => .ok (.lst ys) st
@[simp] theorem lcW_non {f : D → Store → R (Option D)} {ds : List D} {st : Store} : lcW f { its := ds } st = lcR f ds st := by
  unfold lcW lcR
  rw [lcGo_lcP rfl]
@[simp] theorem x_lc {c : Cxt} {ρ : Sl} {st : Store} {x : Ex} {tg : List Nat} {tp : Bool} {s : Sr} {i : Ox} {own : List Nat} : ev c (.lc x tg tp s i own) ρ st = (evw c s ρ st).bind fun w st => lcW (elt c x tg tp i (wipe ρ own)) w st := e_lc
theorem lcP_pure {α : Type} {f : α → Store → R (Option D)} {g : α → Option D} {st : Store} : ∀ (xs : List α) (acc : List D), (∀ x ∈ xs, f x st = .ok (g x) st) → acc.length + xs.length ≤ line → lcP f xs acc st = .ok (acc ++ xs.filterMap g) st
  | [], acc, _, _ => by simp [lcP]
  | d :: ds, acc, h, hl => by
    have hl : acc.length + (ds.length + 1) ≤ line := hl
    have h' : ∀ e ∈ ds, f e st = .ok (g e) st := fun e he => h e (List.mem_cons_of_mem _ he)
    rw [lcP, h d List.mem_cons_self]
    cases hg : g d with
    | none =>
      rw [R.bind_ok]
      show lcP f ds acc st = _
      rw [lcP_pure ds acc h' (by omega), List.filterMap_cons_none hg]
    | some y =>
      rw [R.bind_ok]
      show (if acc.length < line then lcP f ds (acc ++ [y]) st else .bad) = _
      rw [if_pos (by omega), lcP_pure ds (acc ++ [y]) h' (by rw [List.length_append]; simp only [List.length_cons, List.length_nil]; omega), List.filterMap_cons_some hg, List.append_assoc]
      rfl
theorem lcR_fm {α : Type} {f : α → Store → R (Option D)} (g : α → Option D) {xs : List α} {st : Store} (hl : xs.length ≤ line) (h : ∀ x ∈ xs, f x st = .ok (g x) st) : lcR f xs st = .ok (.lst (xs.filterMap g)) st := by
  unfold lcR
  rw [lcP_pure xs [] h (by simpa using hl)]
  rfl
theorem lcR_ok {α : Type} {f : α → Store → R (Option D)} (F : α → D) {xs : List α} {st : Store} (hl : xs.length ≤ line) (h : ∀ x ∈ xs, f x st = .ok (some (F x)) st) : lcR f xs st = .ok (.lst (xs.map F)) st := by
  rw [lcR_fm (fun x => some (F x)) hl h]
  congr 2
  induction xs with
  | nil => rfl
  | cons a r ih => rw [List.filterMap_cons, List.map_cons, ih (Nat.le_trans (Nat.le_succ _) hl) (fun x hx => h x (List.mem_cons_of_mem _ hx))]
theorem lcR_if {α : Type} {f : α → Store → R (Option D)} (p : α → Bool) (F : α → D) {xs : List α} {st : Store} (hl : xs.length ≤ line) (h : ∀ x ∈ xs, f x st = if p x then .ok (some (F x)) st else .ok none st) : lcR f xs st = .ok (.lst ((xs.filter p).map F)) st := by
  rw [lcR_fm (fun x => if p x then some (F x) else none) hl (fun x hx => by rw [h x hx]; split <;> rfl)]
  congr 2
  clear h hl
  induction xs with
  | nil => rfl
  | cons a r ih =>
    rw [List.filterMap_cons, ih, List.filter_cons]
    cases p a <;> rfl
/-- closed by simp alone -/
@[simp] theorem lcR_ok' {α : Type} {F : α → D} {xs : List α} {st : Store} (hl : xs.length ≤ line) : lcR (fun x st => .ok (some (F x)) st) xs st = .ok (.lst (xs.map F)) st := lcR_ok F hl fun _ _ => rfl
@[simp] theorem lcR_if' {α : Type} {p : α → Prop} [∀ x, Decidable (p x)] {F : α → D} {xs : List α} {st : Store} (hl : xs.length ≤ line) : lcR (fun x st => if p x then .ok (some (F x)) st else .ok none st) xs st = .ok (.lst ((xs.filter fun x => decide (p x)).map F)) st := lcR_if (fun x => decide (p x)) F hl fun x _ => by by_cases h : p x <;> simp [h]
@[simp] theorem tb_bl {b : Bool} : tb (.bl b) = some b := (rfl)
section
variable {c : Cxt} {ρ : Sl} {st : Store}
@[simp] theorem q_non : evt c .non ρ st = .ok true st := by rw [evt]
@[simp] theorem q_som {e : Ex} : evt c (.som e) ρ st = (ev c e ρ st).bind fun x st => ofO (tb x) st := by rw [evt]
end
def asgO (o : Option Sl) (f : Sl → R (Option D)) : R (Option D) := match o with
  | none => .bad
  | some ρ => f ρ
@[simp] theorem asgO_some {ρ : Sl} {f : Sl → R (Option D)} : asgO (some ρ) f = f ρ := (rfl)
@[simp] theorem elt_eq {c : Cxt} {x : Ex} {tg : List Nat} {tp : Bool} {i : Ox} {ρ : Sl} {d : D} : elt c x tg tp i ρ d = fun st => asgO (asgT tg tp d ρ) fun ρ1 => (evt c i ρ1 st).bind fun b st => if b then (ev c x ρ1 st).bind fun y st => .ok (some y) st else .ok none st := by
  funext st
  unfold elt asgO
  rfl
@[simp] theorem asgT_f {tg : List Nat} {d : D} {ρ : Sl} : asgT tg false d ρ = asg1 tg [d] ρ := (rfl)
@[simp] theorem asgT_t {tg : List Nat} {ds : List D} {ρ : Sl} : asgT tg true (.tup ds) ρ = asg1 tg ds ρ := (rfl)
@[simp] theorem asg1_nil {ρ : Sl} : asg1 [] [] ρ = some ρ := (rfl)
@[simp] theorem asg1_cons {i : Nat} {is : List Nat} {d : D} {ds : List D} {ρ : Sl} : asg1 (i :: is) (d :: ds) ρ = if i < ρ.length then asg1 is ds (ρ.set i (some d)) else none := (rfl)
@[simp] theorem set1_eq {i : Nat} {d : D} {ρ : Sl} : set1 i d ρ = if i < ρ.length then some (ρ.set i (some d)) else none := (rfl)
@[simp] theorem wipe_nil {ρ : Sl} : wipe ρ [] = ρ := (rfl)
@[simp] theorem wipe_cons {ρ : Sl} {v : Nat} {vs : List Nat} : wipe ρ (v :: vs) = (wipe ρ vs).set v none := (rfl)
@[simp] theorem forT_eq {c : Cxt} {tg : List Nat} {tp : Bool} {b : Sms} {d : D} {ρ : Sl} {st : Store} : forT c tg tp b d ρ st = (ofS (asgT tg tp d ρ) st).thn fun ρ st => exs c b ρ st := by
  unfold forT
  cases asgT tg tp d ρ <;> rfl
@[simp] theorem pick_nil {α : Type} {ds : List α} : pick [] ds = some [] := (rfl)
@[simp] theorem pick_cons {α : Type} {i : Nat} {r : List Nat} {ds : List α} : pick (i :: r) ds = (ds[i]?).bind fun d => (pick r ds).map fun rs => d :: rs := (rfl)
/-! ### a def -/
def outR (r : E) : R D := match r with
  | .nx _ st => .ok .non st
  | .rt d st => .ok d st
  | .exc k d _ st => .exc k d st
  | _ => .bad
@[simp] theorem outR_nx {ρ : Sl} {st : Store} : outR (.nx ρ st) = .ok .non st := (rfl)
@[simp] theorem outR_rt {d : D} {st : Store} : outR (.rt d st) = .ok d st := (rfl)
@[simp] theorem outR_exc {k : Nat} {d : D} {ρ : Sl} {st : Store} : outR (.exc k d ρ st) = .exc k d st := (rfl)
@[simp] theorem outR_ite {p : Prop} [Decidable p] {a b : E} : outR (if p then a else b) = if p then outR a else outR b := by split <;> rfl
theorem run1_eq {c : Cxt} {f : Fn} {ds : List D} {st : Store} : run1 c f ds st = if ds.length = f.ar then outR (exs c f.body (ds.map some ++ List.replicate (f.sl - ds.length) none) st) else .bad := by
  unfold run1 outR
  rfl
/-! ### free and pure values -/
@[simp] theorem fr_nil : freeDs [] = true := by rw [freeDs]
@[simp] theorem fr_cons {d : D} {ds : List D} : freeDs (d :: ds) = (freeD d && freeDs ds) := by rw [freeDs]
@[simp] theorem fr_non : freeD .non = true := by rw [freeD]
@[simp] theorem fr_bl {b : Bool} : freeD (.bl b) = true := by rw [freeD]
@[simp] theorem fr_int {i : Int} : freeD (.int i) = true := by rw [freeD]
@[simp] theorem fr_str {z : Str} : freeD (.str z) = true := by rw [freeD]
@[simp] theorem fr_lst {ds : List D} : freeD (.lst ds) = freeDs ds := by rw [freeD]
@[simp] theorem fr_tup {ds : List D} : freeD (.tup ds) = freeDs ds := by rw [freeD]
@[simp] theorem fr_fn {f : Nat} : freeD (.fn f) = true := by rw [freeD]
@[simp] theorem fr_scr {ns : List Int} : freeD (.scr ns) = true := by rw [freeD]
@[simp] theorem fr_dic0 : freeD (.dic []) = true := by rw [freeD, freeDk]
theorem freeDs_all : ∀ ds : List D, freeDs ds = ds.all freeD
  | [] => by simp
  | d :: ds => by simp [freeDs_all ds]
@[simp] theorem fr_map {α : Type} {f : α → D} {xs : List α} (h : ∀ x, freeD (f x) = true) : freeDs (xs.map f) = true := by
  rw [freeDs_all, List.all_eq_true]
  intro d hd
  obtain ⟨x, _, rfl⟩ := List.mem_map.mp hd
  exact h x
@[simp] theorem fr_app {xs ys : List D} : freeDs (xs ++ ys) = (freeDs xs && freeDs ys) := by
  rw [freeDs_all, freeDs_all, freeDs_all, List.all_append]
@[simp] theorem pu_nil : pureDs [] = true := by rw [pureDs]
@[simp] theorem pu_cons {d : D} {ds : List D} : pureDs (d :: ds) = (pureD d && pureDs ds) := by rw [pureDs]
@[simp] theorem pu_non : pureD .non = true := by rw [pureD]
@[simp] theorem pu_bl {b : Bool} : pureD (.bl b) = true := by rw [pureD]
@[simp] theorem pu_int {i : Int} : pureD (.int i) = true := by rw [pureD]
@[simp] theorem pu_str {z : Str} : pureD (.str z) = true := by rw [pureD]
@[simp] theorem pu_lst {ds : List D} : pureD (.lst ds) = pureDs ds := by rw [pureD]
@[simp] theorem pu_tup {ds : List D} : pureD (.tup ds) = pureDs ds := by rw [pureD]
@[simp] theorem pu_map {α : Type} {f : α → D} {xs : List α} (h : ∀ x, pureD (f x) = true) : pureDs (xs.map f) = true := by
  rw [pureDs_all, List.all_eq_true]
  intro d hd
  obtain ⟨x, _, rfl⟩ := List.mem_map.mp hd
  exact h x
@[simp] theorem toP_int {i : Int} : toP (.int i) = .int i := by rw [toP]
@[simp] theorem toP_str {z : Str} : toP (.str z) = .str z := by rw [toP]
@[simp] theorem toP_non : toP .non = .none := by rw [toP]
@[simp] theorem toP_bl {b : Bool} : toP (.bl b) = .bool b := by rw [toP]
@[simp] theorem toP_lst {ds : List D} : toP (.lst ds) = .list (ds.map toP) := by rw [toP, toPs_map]
@[simp] theorem toP_tup {ds : List D} : toP (.tup ds) = .tuple (ds.map toP) := by rw [toP, toPs_map]
/-! ### typed data -/
theorem beq_dec {α : Type} [BEq α] [LawfulBEq α] [DecidableEq α] (a b : α) : (a == b) = decide (a = b) := by
  rw [Bool.eq_iff_iff, beq_iff_eq, decide_eq_true_eq]
/-- a type whose things are plain values -/
class Enc (α : Type) [DecidableEq α] where
  d : α → D
  ok : α → Prop
  pur : ∀ a, pureD (d a) = true
  can : ∀ a, ok a → (toP (d a)).canLay0 = true
  dep : Nat
  depth : ∀ a, (toP (d a)).depth ≤ dep
  eqv : ∀ a b, PyData.eqv (toP (d a)) (toP (d b)) = decide (a = b)
instance : Enc Int where
  d := .int
  ok _ := True
  pur _ := pu_int
  can _ _ := by rw [toP_int]; rfl
  dep := 0
  depth _ := by rw [toP_int]; exact Nat.le_refl _
  eqv a b := by rw [toP_int, toP_int]; simp only [PyData.eqv]; exact beq_dec a b
instance : Enc Str where
  d := .str
  ok z := PyData.strOk z = true
  pur _ := pu_str
  can _ h := by rw [toP_str]; simp only [PyData.canLay0]; exact h
  dep := 0
  depth _ := by rw [toP_str]; exact Nat.le_refl _
  eqv a b := by rw [toP_str, toP_str]; simp only [PyData.eqv]; exact beq_dec a b
theorem depthAll_le {n : Nat} : ∀ (xs : List PyData), (∀ x ∈ xs, x.depth ≤ n) → PyData.depthAll xs ≤ n
  | [], _ => by simp only [PyData.depthAll]; exact Nat.zero_le _
  | x :: xs, h => by
    simp only [PyData.depthAll]
    exact Nat.max_le.mpr ⟨h x List.mem_cons_self, depthAll_le xs fun y hy => h y (List.mem_cons_of_mem _ hy)⟩
theorem canAll_of : ∀ (xs : List PyData), (∀ x ∈ xs, x.canLay0 = true) → PyData.canLayAll0 xs = true
  | [], _ => by simp only [PyData.canLayAll0]
  | x :: xs, h => by
    simp only [PyData.canLayAll0]
    rw [h x List.mem_cons_self, canAll_of xs fun y hy => h y (List.mem_cons_of_mem _ hy)]
    rfl
theorem eqvAll_enc {α : Type} [DecidableEq α] [Enc α] : ∀ (xs ys : List α), PyData.eqvAll ((xs.map Enc.d).map toP) ((ys.map Enc.d).map toP) = decide (xs = ys)
  | [], [] => by simp [PyData.eqvAll]
  | [], _ :: _ => by simp [PyData.eqvAll]
  | _ :: _, [] => by simp [PyData.eqvAll]
  | x :: xs, y :: ys => by
    simp only [List.map_cons, PyData.eqvAll]
    rw [Enc.eqv, eqvAll_enc xs ys, ← Bool.decide_and]
    exact decide_eq_decide.mpr (by rw [List.cons.injEq])
instance {α : Type} [DecidableEq α] [Enc α] : Enc (List α) where
  d xs := .lst (xs.map Enc.d)
  ok xs := ∀ x ∈ xs, Enc.ok x
  pur xs := by rw [pu_lst]; exact pu_map Enc.pur
  can xs h := by
    rw [toP_lst]
    simp only [PyData.canLay0]
    refine canAll_of _ fun y hy => ?_
    obtain ⟨z, hz, rfl⟩ := List.mem_map.mp hy
    obtain ⟨x, hx, rfl⟩ := List.mem_map.mp hz
    exact Enc.can x (h x hx)
  dep := Enc.dep α + 1
  depth xs := by
    rw [toP_lst]
    simp only [PyData.depth]
    refine Nat.succ_le_succ (depthAll_le _ fun y hy => ?_)
    obtain ⟨z, hz, rfl⟩ := List.mem_map.mp hy
    obtain ⟨x, hx, rfl⟩ := List.mem_map.mp hz
    exact Enc.depth x
  eqv xs ys := by
    rw [toP_lst, toP_lst]
    simp only [PyData.eqv]
    exact eqvAll_enc xs ys
section
variable {α : Type} [DecidableEq α] [Enc α]
theorem shaped_enc {a : α} (h : Enc.ok a) (hd : Enc.dep α ≤ 64) : SeqAt.shaped (toP (Enc.d a)) = true := by
  unfold SeqAt.shaped
  rw [Enc.can a h, Bool.true_and, decide_eq_true_eq]
  exact Nat.le_trans (Enc.depth a) hd
theorem snap_pure {st : Store} {d : D} (h : pureD d = true) : snap st d = some d := by
  cases d <;> first | (simp [pureD] at h; done) | exact if_pos (e := none) h
theorem eq_enc {st : Store} {a b : α} (ha : Enc.ok a) (hb : Enc.ok b) (hd : Enc.dep α ≤ 64) : eqD st (Enc.d a) (Enc.d b) = some (decide (a = b)) := by
  unfold eqD
  rw [snap_pure (Enc.pur a), snap_pure (Enc.pur b)]
  show (if _ then _ else _) = _
  rw [shaped_enc ha hd, shaped_enc hb hd, Enc.eqv]
  rfl
theorem any_enc (xs : List α) (x : α) : (((xs.map Enc.d).map toP).any fun z => PyData.eqv z (toP (Enc.d x))) = decide (x ∈ xs) := by
  rw [List.map_map, List.any_map, Bool.eq_iff_iff, List.any_eq_true, decide_eq_true_eq]
  constructor
  · rintro ⟨y, hy, e⟩
    have e' : PyData.eqv (toP (Enc.d y)) (toP (Enc.d x)) = true := e
    rw [Enc.eqv, decide_eq_true_eq] at e'
    exact e' ▸ hy
  · intro hx
    refine ⟨x, hx, ?_⟩
    show PyData.eqv (toP (Enc.d x)) (toP (Enc.d x)) = true
    rw [Enc.eqv, decide_eq_true_eq]
theorem snap_cel {st : Store} {k : Nat} {ds : List D} (h : st[k]? = some (.lst ds)) (hp : pureDs ds = true) : snap st (.cel k) = some (.lst ds) := by
  show (match st[k]? with | some (.lst ds) => if pureDs ds then some (D.lst ds) else none | _ => none) = _
  rw [h]
  exact if_pos hp
theorem in_gen {st : Store} {x : α} {b : D} {ys : List α} (hx : Enc.ok x) (hy : Enc.ok ys) (hd : Enc.dep α < 64) (hb : (∃ k, b = .cel k) ∨ ∃ ds, b = .lst ds) (hs : snap st b = some (Enc.d ys)) : inD st (Enc.d x) b = some (decide (x ∈ ys)) := by
  have e : inD st (Enc.d x) b = match snap st (Enc.d x), snap st b with
    | some x, some (.lst ys) => if SeqAt.shaped (toP x) && SeqAt.shaped (.list (toPs ys)) then some ((toPs ys).any fun z => PyData.eqv z (toP x)) else none
    | _, _ => none := by
    rcases hb with ⟨k, rfl⟩ | ⟨ds, rfl⟩ <;> rfl
  have sh : SeqAt.shaped (toP (Enc.d ys)) = true := shaped_enc hy (by show Enc.dep α + 1 ≤ 64; omega)
  have ed : (Enc.d ys : D) = D.lst (ys.map Enc.d) := rfl
  rw [e, hs, snap_pure (Enc.pur x), ed]
  rw [ed, toP_lst] at sh
  show (if SeqAt.shaped (toP (Enc.d x)) && SeqAt.shaped (.list (toPs (ys.map Enc.d))) then some ((toPs (ys.map Enc.d)).any fun z => PyData.eqv z (toP (Enc.d x))) else none) = _
  rw [toPs_map, sh, shaped_enc hx (by omega), any_enc]
  rfl
theorem in_enc {st : Store} {x : α} {ys : List α} (hx : Enc.ok x) (hy : Enc.ok ys) (hd : Enc.dep α < 64) : inD st (Enc.d x) (.lst (ys.map Enc.d)) = some (decide (x ∈ ys)) :=
  in_gen hx hy hd (.inr ⟨_, rfl⟩) (snap_pure (Enc.pur ys))
theorem in_encC {st : Store} {x : α} {ys : List α} {k : Nat} (hx : Enc.ok x) (hy : Enc.ok ys) (hd : Enc.dep α < 64) (hk : st[k]? = some (.lst (ys.map Enc.d))) : inD st (Enc.d x) (.cel k) = some (decide (x ∈ ys)) :=
  in_gen hx hy hd (.inl ⟨_, rfl⟩) (by rw [snap_cel hk (by have := Enc.pur ys; rwa [show (Enc.d ys : D) = D.lst (ys.map Enc.d) from rfl, pu_lst] at this)]; rfl)
end
/-! ### by kinds -/
abbrev dL (l : List Int) : D := .lst (l.map .int)
abbrev dLL (l : List (List Int)) : D := .lst (l.map dL)
abbrev dS (l : List Str) : D := .lst (l.map .str)
def okZ (z : Str) : Prop := PyData.strOk z = true
section
variable {st : Store}
@[simp] theorem eq_II {a b : Int} : eqD st (.int a) (.int b) = some (decide (a = b)) := eq_enc (α := Int) trivial trivial (Nat.zero_le _)
@[simp] theorem eq_SS {a b : Str} (ha : okZ a) (hb : okZ b) : eqD st (.str a) (.str b) = some (decide (a = b)) := eq_enc (α := Str) ha hb (Nat.zero_le _)
theorem okL (l : List Int) : Enc.ok l := fun _ _ => trivial
theorem okLL (l : List (List Int)) : Enc.ok l := fun _ _ => okL _
@[simp] theorem eq_LL {a b : List Int} : eqD st (.lst (a.map .int)) (.lst (b.map .int)) = some (decide (a = b)) := eq_enc (α := List Int) (okL a) (okL b) (by decide)
@[simp] theorem eq_L0 {a : List Int} : eqD st (.lst (a.map .int)) (.lst []) = some (decide (a = [])) := eq_LL (b := [])
@[simp] theorem eq_MM {a b : List (List Int)} : eqD st (.lst (a.map fun l => .lst (l.map .int))) (.lst (b.map fun l => .lst (l.map .int))) = some (decide (a = b)) := eq_enc (α := List (List Int)) (okLL a) (okLL b) (by decide)
@[simp] theorem eq_M0 {a : List (List Int)} : eqD st (.lst (a.map fun l => .lst (l.map .int))) (.lst []) = some (decide (a = [])) := eq_MM (b := [])
theorem eq_ZZ {a b : List Str} (ha : ∀ z ∈ a, okZ z) (hb : ∀ z ∈ b, okZ z) : eqD st (.lst (a.map .str)) (.lst (b.map .str)) = some (decide (a = b)) := eq_enc (α := List Str) ha hb (by decide)
@[simp] theorem eq_Z0 {a : List Str} (ha : ∀ z ∈ a, okZ z) : eqD st (.lst (a.map .str)) (.lst []) = some (decide (a = [])) := eq_ZZ (b := []) ha (by simp)
@[simp] theorem in_IL {i : Int} {l : List Int} : inD st (.int i) (.lst (l.map .int)) = some (decide (i ∈ l)) := in_enc (α := Int) trivial (okL l) (by decide)
@[simp] theorem in_LM {i : List Int} {l : List (List Int)} : inD st (.lst (i.map .int)) (.lst (l.map fun l => .lst (l.map .int))) = some (decide (i ∈ l)) := (in_enc (α := List Int) (okL i) (okLL l) (by decide)).trans (congrArg some (decide_eq_decide.mpr Iff.rfl))
theorem in_LC {i : List Int} {l : List (List Int)} {k : Nat} (hk : st[k]? = some (.lst (l.map fun l => .lst (l.map .int)))) : inD st (.lst (i.map .int)) (.cel k) = some (decide (i ∈ l)) := (in_encC (α := List Int) (okL i) (okLL l) (by decide) hk).trans (congrArg some (decide_eq_decide.mpr Iff.rfl))
@[simp] theorem blsD_nil : blsD [] = some [] := (rfl)
@[simp] theorem qblsD_map {α : Type} {f : α → Bool} : ∀ {xs : List α}, blsD (xs.map fun x => D.bl (f x)) = some (xs.map f)
  | [] => rfl
  | x :: xs => by
    show (blsD (xs.map fun x => D.bl (f x))).map _ = _
    rw [qblsD_map (xs := xs)]
    rfl
@[simp] theorem qstrsD_map {α : Type} {f : α → Str} : ∀ {xs : List α}, strsD (xs.map fun x => D.str (f x)) = some (xs.map f)
  | [] => rfl
  | x :: xs => by
    show (strsD (xs.map fun x => D.str (f x))).map _ = _
    rw [qstrsD_map (xs := xs)]
    rfl
@[simp] theorem qintsD_map {α : Type} {f : α → Int} : ∀ {xs : List α}, intsD (xs.map fun x => D.int (f x)) = some (xs.map f)
  | [] => rfl
  | x :: xs => by
    show (intsD (xs.map fun x => D.int (f x))).map _ = _
    rw [qintsD_map (xs := xs)]
    rfl
@[simp] theorem strsD_nil : strsD [] = some [] := (rfl)
@[simp] theorem strsD_cons {z : Str} {r : List D} : strsD (.str z :: r) = (strsD r).map (z :: ·) := (rfl)
@[simp] theorem pairs_nil {n : Nat} : pairs n [] = [] := (rfl)
theorem pairs_map {α : Type} {f : α → D} : ∀ {n : Nat} {xs : List α}, pairs n (xs.map f) = (xs.zipIdx n).map fun p => .tup [.int p.2, f p.1]
  | _, [] => rfl
  | n, x :: xs => by
    rw [List.map_cons, List.zipIdx_cons, List.map_cons, pairs, pairs_map (n := n + 1) (xs := xs)]
@[simp] theorem lenD_lst {ds : List D} : lenD st (.lst ds) = some ds.length := (rfl)
@[simp] theorem isi_int {i : Int} {t : Ty} : isiD st t (.int i) = (match t with | .exc k => none | .int => some true | _ => some false) := by cases t <;> rfl
@[simp] theorem isi_lst {ds : List D} {t : Ty} : isiD st t (.lst ds) = (match t with | .exc k => none | .list => some true | _ => some false) := by cases t <;> rfl
@[simp] theorem isi_str {z : Str} {t : Ty} : isiD st t (.str z) = (match t with | .exc k => none | .str => some true | _ => some false) := by cases t <;> rfl
@[simp] theorem isi_exv {k j : Nat} {d : D} : isiD st (.exc k) (.exv j d) = some (decide (j = k) || decide (k = 0)) := (rfl)
@[simp] theorem atI_nat {α : Type} {xs : List α} {k : Nat} : L2.atI xs (k : Int) = xs[k]? := by
  unfold L2.atI L2.ixN
  rw [if_pos (by omega)]
  by_cases h : k < xs.length
  · rw [if_pos (by omega)]
    rfl
  · rw [if_neg (by omega), List.getElem?_eq_none (by omega)]
    rfl
@[simp] theorem atI_2 {α : Type} {xs : List α} : L2.atI xs 2 = xs[2]? := atI_nat (k := 2)
@[simp] theorem atI_3 {α : Type} {xs : List α} : L2.atI xs 3 = xs[3]? := atI_nat (k := 3)
@[simp] theorem atI_4 {α : Type} {xs : List α} : L2.atI xs 4 = xs[4]? := atI_nat (k := 4)
@[simp] theorem atI_5 {α : Type} {xs : List α} : L2.atI xs 5 = xs[5]? := atI_nat (k := 5)
@[simp] theorem atI_6 {α : Type} {xs : List α} : L2.atI xs 6 = xs[6]? := atI_nat (k := 6)
@[simp] theorem atI_7 {α : Type} {xs : List α} : L2.atI xs 7 = xs[7]? := atI_nat (k := 7)
@[simp] theorem atI_0 {α : Type} {xs : List α} : L2.atI xs 0 = xs[0]? := atI_nat (k := 0)
@[simp] theorem atI_1 {α : Type} {xs : List α} : L2.atI xs 1 = xs[1]? := atI_nat (k := 1)
@[simp] theorem atI_1p {α : Type} {xs : List α} {k : Nat} : L2.atI xs (1 + (k : Int)) = xs[k + 1]? := by
  rw [show (1 : Int) + (k : Int) = ((k + 1 : Nat) : Int) by omega]
  exact atI_nat
@[simp] theorem one_add_sub {x : Int} : 1 + x - 1 = x := by omega
@[simp] theorem lt62 {n : Nat} (h : n ≤ line) : (n : Int) < 4611686018427387904 := by unfold line at h; omega
@[simp] theorem gt62 {n : Nat} : -4611686018427387904 ≤ (n : Int) := by omega
@[simp] theorem le1_line : 1 ≤ line := by decide
@[simp] theorem le2_line : 2 ≤ line := by decide
@[simp] theorem le3_line : 3 ≤ line := by decide
@[simp] theorem le4_line : 4 ≤ line := by decide
@[simp] theorem le5_line : 5 ≤ line := by decide
@[simp] theorem lt0_line : 0 < line := by decide
@[simp] theorem le6_line : 6 ≤ line := by decide
@[simp] theorem le7_line : 7 ≤ line := by decide
@[simp] theorem le8_line : 8 ≤ line := by decide
@[simp] theorem le9_line : 9 ≤ line := by decide
@[simp] theorem le10_line : 10 ≤ line := by decide
@[simp] theorem le11_line : 11 ≤ line := by decide
@[simp] theorem le12_line : 12 ≤ line := by decide
@[simp] theorem le13_line : 13 ≤ line := by decide
@[simp] theorem le14_line : 14 ≤ line := by decide
@[simp] theorem le15_line : 15 ≤ line := by decide
@[simp] theorem le16_line : 16 ≤ line := by decide
@[simp] theorem le17_line : 17 ≤ line := by decide
@[simp] theorem le18_line : 18 ≤ line := by decide
@[simp] theorem le19_line : 19 ≤ line := by decide
@[simp] theorem le20_line : 20 ≤ line := by decide
@[simp] theorem le21_line : 21 ≤ line := by decide
@[simp] theorem le22_line : 22 ≤ line := by decide
@[simp] theorem le23_line : 23 ≤ line := by decide
@[simp] theorem le24_line : 24 ≤ line := by decide
@[simp] theorem le25_line : 25 ≤ line := by decide
@[simp] theorem le26_line : 26 ≤ line := by decide
@[simp] theorem le27_line : 27 ≤ line := by decide
@[simp] theorem le28_line : 28 ≤ line := by decide
@[simp] theorem le29_line : 29 ≤ line := by decide
@[simp] theorem le30_line : 30 ≤ line := by decide
@[simp] theorem le31_line : 31 ≤ line := by decide
@[simp] theorem le32_line : 32 ≤ line := by decide
theorem le_line {n : Nat} (h : n ≤ 16777216) : n ≤ line := h
@[simp] theorem sub_lst {ds : List D} {i : Int} : subD st (.lst ds) (.int i) = L2.atI ds i := (rfl)
@[simp] theorem sub_tup {ds : List D} {i : Int} : subD st (.tup ds) (.int i) = L2.atI ds i := (rfl)
@[simp] theorem slc_lst {ds : List D} {l h : Option Int} : slcD st (.lst ds) l h = some (.lst (cutL ds l h)) := (rfl)
theorem qcutL_map {α β : Type} {f : α → β} {xs : List α} {l h : Option Int} : cutL (xs.map f) l h = (cutL xs l h).map f := by
  unfold cutL
  rw [List.length_map, List.map_take, List.map_drop]
@[simp] theorem cutL_tail {α : Type} {xs : List α} {k : Nat} : cutL xs (some (k : Int)) none = xs.drop k := by
  unfold cutL
  rw [HT.sIx_nat, HT.sIx_none]
  by_cases h : k ≤ xs.length
  · rw [Nat.min_eq_left h, List.take_of_length_le (by rw [List.length_drop]; exact Nat.le_refl _)]
  · rw [Nat.min_eq_right (by omega), List.drop_of_length_le (Nat.le_refl _), List.drop_of_length_le (by omega), List.take_nil]
@[simp] theorem cutL_head {α : Type} {xs : List α} {k : Nat} : cutL xs none (some (k : Int)) = xs.take k := by
  unfold cutL
  rw [HT.sIx_nat, HT.sIx_none, Nat.sub_zero, List.drop_zero]
  by_cases h : k ≤ xs.length
  · rw [Nat.min_eq_left h]
  · rw [Nat.min_eq_right (by omega), List.take_of_length_le (Nat.le_refl _), List.take_of_length_le (by omega)]
@[simp] theorem cutL_tail1 {α : Type} {xs : List α} : cutL xs (some 1) none = xs.drop 1 := cutL_tail (k := 1)
@[simp] theorem bin_II {op : Bo} {i j : Int} : binD st op (.int i) (.int j) = binI op i j := (rfl)
@[simp] theorem bi_add {i j : Int} : binI .add i j = some (.int (i + j)) := (rfl)
@[simp] theorem bi_sub {i j : Int} : binI .sub i j = some (.int (i - j)) := (rfl)
@[simp] theorem bi_mod {i j : Int} (h : 0 < j) : binI .mod i j = some (.int (i % j)) := if_pos h
@[simp] theorem bi_fdv {i j : Int} (h : 0 < j) (h2 : j < 1073741824) : binI .fdv i j = some (.int (i / j)) := if_pos (by simp [h, h2])
@[simp] theorem bi_mul {i j : Int} (h : (-(2 ^ 64) < i ∧ i < 2 ^ 64) ∨ (-(2 ^ 64) < j ∧ j < 2 ^ 64)) : binI .mul i j = some (.int (i * j)) := if_pos (by simpa [okMul] using h)
theorem bin_SS {x y : Str} (h : x.length + y.length ≤ line) : binD st .add (.str x) (.str y) = some (.str (x ++ y)) := if_pos h
theorem bin_LL {x y : List D} (h : x.length + y.length ≤ line) : binD st .add (.lst x) (.lst y) = some (.lst (x ++ y)) := if_pos h
@[simp] theorem set_cel {k : Nat} {i : Int} {d : D} {ds : List D} (h : st[k]? = some (.lst ds)) : stiD st (.cel k) (.int i) d = (L2.ixN ds.length i).map fun n => st.set k (.lst (ds.set n d)) := by
  show (match st[k]? with | some (.lst ds) => (L2.ixN ds.length i).map fun n => st.set k (.lst (ds.set n d)) | _ => none) = _
  rw [h]
theorem app_cel {k : Nat} {d : D} {ds : List D} (h : st[k]? = some (.lst ds)) (hl : ds.length < line) : metD st .append (.cel k) [d] = some (.non, st.set k (.lst (ds ++ [d]))) := by
  show (match st[k]? with | some (.lst ds) => if ds.length < line then some (D.non, st.set k (.lst (ds ++ [d]))) else none | _ => none) = _
  rw [h]
  exact if_pos hl
@[simp] theorem items_cel {k : Nat} {ds : List D} (h : st[k]? = some (.lst ds)) : items st (.cel k) = some ds := by
  show (match st[k]? with | some (.lst ds) => some ds | _ => none) = _
  rw [h]
@[simp] theorem len_cel {k : Nat} {ds : List D} (h : st[k]? = some (.lst ds)) : lenD st (.cel k) = some ds.length := by
  show (match st[k]? with | some (.lst ds) => some ds.length | _ => none) = _
  rw [h]
@[simp] theorem sub_cel {k : Nat} {i : Int} {ds : List D} (h : st[k]? = some (.lst ds)) : subD st (.cel k) (.int i) = L2.atI ds i := by
  show (items st (.cel k)).bind (fun xs => L2.atI xs i) = _
  rw [items_cel h]
  rfl
@[simp] theorem mt_app {x : D} : metTy st .append x = (items st x).isSome := (rfl)
@[simp] theorem mt_popAt {x : D} : metTy st .popAt x = (items st x).isSome := (rfl)
@[simp] theorem mt_split {z : Str} : metTy st .split (.str z) = true := (rfl)
@[simp] theorem mt_join {z : Str} : metTy st .join (.str z) = true := (rfl)
theorem split_str {z b : Str} (hb : 0 < b.length) (hz : z.length + 2 ≤ line) : metD st .split (.str z) [.str b] = some (.lst ((Txt.split z b).map .str), st) := if_pos (by simp [hb, hz])
theorem join_strs {z : Str} {x : D} {ys : List Str} (h : (items st x).bind strsD = some ys) (hl : (ys.map Str.length).sum + ys.length * z.length ≤ line) : metD st .join (.str z) [x] = some (.str (Txt.join z ys), st) := by
  show (match (items st x).bind strsD with | some ys => if (ys.map Str.length).sum + ys.length * z.length ≤ line then some (D.str (Txt.join z ys), st) else none | none => none) = _
  rw [h]
  exact if_pos hl
end
/-! ### a for that always goes through -/
/-- a turn goes through, and then it holds -/
def E.on (r : E) (P : Sl → Store → Prop) : Prop := match r with
  | .nx ρ st => P ρ st
  | .ct ρ st => P ρ st
  | _ => False
@[simp] theorem on_nx {ρ : Sl} {st : Store} {P : Sl → Store → Prop} : (E.nx ρ st).on P = P ρ st := (rfl)
@[simp] theorem on_ct {ρ : Sl} {st : Store} {P : Sl → Store → Prop} : (E.ct ρ st).on P = P ρ st := (rfl)
@[simp] theorem on_ite {p : Prop} [Decidable p] {a b : E} {P : Sl → Store → Prop} : (if p then a else b).on P = if p then a.on P else b.on P := by split <;> rfl
theorem on_turn {r : E} {P : Sl → Store → Prop} {k : Sl → Store → E} (h : r.on P) : ∃ ρ st, P ρ st ∧ r.turn k = k ρ st := by
  cases r <;> first | exact h.elim | exact ⟨_, _, h, rfl⟩
theorem for_fold {α S : Type} {enc : α → D} {w : Walk} {f : D → Sl → Store → E} (Inv : Nat → S → Sl → Store → Prop) (step : S → α → S) {n : Nat} (hs : ∀ i s ρ st, Inv i s ρ st → still w st = true) :
    ∀ (xs : List α) (i : Nat) (s : S) (ρ : Sl) (st : Store), i + xs.length ≤ n → (∀ x ∈ xs, ∀ i s ρ st, i < n → Inv i s ρ st → (f (enc x) ρ st).on (Inv (i + 1) (step s x))) → Inv i s ρ st → ∃ ρ' st', forGo w f (xs.map enc) ρ st = .nx ρ' st' ∧ Inv (i + xs.length) (xs.foldl step s) ρ' st'
  | [], i, s, ρ, st, _, _, h => ⟨ρ, st, for_nil (hs _ _ _ _ h), h⟩
  | x :: xs, i, s, ρ, st, hn, hf, h => by
    have hn : i + (xs.length + 1) ≤ n := hn
    obtain ⟨ρ1, st1, h1, e1⟩ := on_turn (hf x List.mem_cons_self i s ρ st (by omega) h)
    obtain ⟨ρ2, st2, e2, h2⟩ := for_fold Inv step hs xs (i + 1) (step s x) ρ1 st1 (by omega) (fun y hy => hf y (List.mem_cons_of_mem _ hy)) h1
    refine ⟨ρ2, st2, ?_, ?_⟩
    · rw [List.map_cons, for_cons (hs _ _ _ _ h), e1]
      exact e2
    · rw [List.length_cons, List.foldl_cons, show i + (xs.length + 1) = i + 1 + xs.length by omega]
      exact h2
@[simp] theorem still_non {ds : List D} {st : Store} : still { its := ds } st = true := (rfl)
/-- a turn goes on, or tells -/
def E.onX (r : E) (P : Sl → Store → Prop) (Q : D → Prop) : Prop := match r with
  | .nx ρ st => P ρ st
  | .ct ρ st => P ρ st
  | .rt d _ => Q d
  | _ => False
@[simp] theorem onX_nx {ρ : Sl} {st : Store} {P : Sl → Store → Prop} {Q : D → Prop} : (E.nx ρ st).onX P Q = P ρ st := (rfl)
@[simp] theorem onX_ct {ρ : Sl} {st : Store} {P : Sl → Store → Prop} {Q : D → Prop} : (E.ct ρ st).onX P Q = P ρ st := (rfl)
@[simp] theorem onX_rt {d : D} {st : Store} {P : Sl → Store → Prop} {Q : D → Prop} : (E.rt d st).onX P Q = Q d := (rfl)
@[simp] theorem onX_ite {p : Prop} [Decidable p] {a b : E} {P : Sl → Store → Prop} {Q : D → Prop} : (if p then a else b).onX P Q = if p then a.onX P Q else b.onX P Q := by split <;> rfl
def okE' {ε S : Type} (o : Except ε S) (P : S → Prop) : Prop := match o with
  | .ok s => P s
  | .error _ => False
def erE' {ε S : Type} (o : Except ε S) (P : ε → Prop) : Prop := match o with
  | .ok _ => False
  | .error e => P e
@[simp] theorem okE'_ok {ε S : Type} {s : S} {P : S → Prop} : okE' (.ok s : Except ε S) P = P s := (rfl)
@[simp] theorem okE'_er {ε S : Type} {e : ε} {P : S → Prop} : okE' (.error e : Except ε S) P = False := (rfl)
@[simp] theorem erE'_ok {ε S : Type} {s : S} {P : ε → Prop} : erE' (.ok s : Except ε S) P = False := (rfl)
@[simp] theorem erE'_er {ε S : Type} {e : ε} {P : ε → Prop} : erE' (.error e : Except ε S) P = P e := (rfl)
theorem for_out {ε α S : Type} {enc : α → D} {w : Walk} {f : D → Sl → Store → E} (Inv : S → Sl → Store → Prop) (err : ε → D) (step : S → α → Except ε S) (hs : ∀ s ρ st, Inv s ρ st → still w st = true) :
    ∀ (xs : List α) (s : S) (ρ : Sl) (st : Store), (∀ x ∈ xs, ∀ s ρ st, Inv s ρ st → (f (enc x) ρ st).onX (fun ρ' st' => okE' (step s x) fun s' => Inv s' ρ' st') (fun d => erE' (step s x) fun e => d = err e)) → Inv s ρ st →
      (∃ s' ρ' st', xs.foldlM step s = .ok s' ∧ forGo w f (xs.map enc) ρ st = .nx ρ' st' ∧ Inv s' ρ' st') ∨ (∃ e st', xs.foldlM step s = .error e ∧ forGo w f (xs.map enc) ρ st = .rt (err e) st')
  | [], s, ρ, st, _, h => .inl ⟨s, ρ, st, rfl, for_nil (hs _ _ _ h), h⟩
  | x :: xs, s, ρ, st, hf, h => by
    have h1 := hf x List.mem_cons_self s ρ st h
    rw [List.map_cons, for_cons (hs _ _ _ h), List.foldlM_cons]
    cases e : step s x with
    | ok s' =>
      rw [e] at h1
      simp only [okE'_ok, erE'_ok] at h1
      have ih := fun ρ' st' h' => for_out Inv err step hs xs s' ρ' st' (fun y hy => hf y (List.mem_cons_of_mem _ hy)) h'
      revert h1
      cases f (enc x) ρ st <;> intro h1
      · exact ih _ _ h1
      · exact h1.elim
      · exact h1.elim
      · exact ih _ _ h1
      · exact h1.elim
      · exact h1.elim
    | error e' =>
      rw [e] at h1
      simp only [okE'_er, erE'_er] at h1
      revert h1
      cases f (enc x) ρ st <;> intro h1 <;> first | exact h1.elim | exact .inr ⟨e', _, rfl, congrArg (fun d => E.rt d _) h1⟩
@[simp] theorem nonB_non : nonB .non = true := (rfl)
@[simp] theorem nonB_bl {b : Bool} : nonB (.bl b) = false := (rfl)
@[simp] theorem nonB_int {i : Int} : nonB (.int i) = false := (rfl)
@[simp] theorem nonB_str {z : Str} : nonB (.str z) = false := (rfl)
@[simp] theorem nonB_lst {ds : List D} : nonB (.lst ds) = false := (rfl)
@[simp] theorem nonB_tup {ds : List D} : nonB (.tup ds) = false := (rfl)
@[simp] theorem nonB_exv {k : Nat} {d : D} : nonB (.exv k d) = false := (rfl)
@[simp] theorem nonB_cel {k : Nat} : nonB (.cel k) = false := (rfl)
@[simp] theorem blB_non {b : Bool} : blB b .non = false := (rfl)
@[simp] theorem blB_bl {b a : Bool} : blB b (.bl a) = decide (a = b) := (rfl)
@[simp] theorem blB_int {b : Bool} {i : Int} : blB b (.int i) = false := (rfl)
@[simp] theorem blB_str {b : Bool} {z : Str} : blB b (.str z) = false := (rfl)
@[simp] theorem blB_lst {b : Bool} {ds : List D} : blB b (.lst ds) = false := (rfl)
@[simp] theorem blB_tup {b : Bool} {ds : List D} : blB b (.tup ds) = false := (rfl)
@[simp] theorem eq_00 {st : Store} : eqD st (.lst []) (.lst []) = some true := by
  have := eq_II (st := st) (a := 0) (b := 0)
  exact eq_L0 (a := [])
theorem eqvAll_nil {xs : List PyData} : PyData.eqvAll xs [] = xs.isEmpty := by cases xs <;> simp [PyData.eqvAll]
/-- a list that is none or not -/
theorem eq_nil {α : Type} [DecidableEq α] {st : Store} {xs : List α} {f : α → D} (h : ∀ x ∈ xs, pureD (f x) = true ∧ (toP (f x)).canLay0 = true ∧ (toP (f x)).depth ≤ 60) : eqD st (.lst (xs.map f)) (.lst []) = some (decide (xs = [])) := by
  have hp : pureD (.lst (xs.map f)) = true := by
    rw [pu_lst, pureDs_all, List.all_eq_true]
    intro d hd
    obtain ⟨x, hx, rfl⟩ := List.mem_map.mp hd
    exact (h x hx).1
  unfold eqD
  rw [snap_pure hp, snap_pure (d := .lst []) (by simp)]
  have hs : SeqAt.shaped (toP (.lst (xs.map f))) = true := by
    unfold SeqAt.shaped
    rw [toP_lst, Bool.and_eq_true, decide_eq_true_eq]
    constructor
    · simp only [PyData.canLay0]
      refine canAll_of _ fun y hy => ?_
      obtain ⟨d, hd, rfl⟩ := List.mem_map.mp hy
      obtain ⟨x, hx, rfl⟩ := List.mem_map.mp hd
      exact (h x hx).2.1
    · simp only [PyData.depth]
      refine Nat.le_trans (Nat.succ_le_succ (depthAll_le (n := 60) _ fun y hy => ?_)) (by decide)
      obtain ⟨d, hd, rfl⟩ := List.mem_map.mp hy
      obtain ⟨x, hx, rfl⟩ := List.mem_map.mp hd
      exact (h x hx).2.2
  have h0 : SeqAt.shaped (toP (.lst [])) = true := by rw [toP_lst]; rfl
  show (if _ then _ else _) = _
  rw [hs, h0]
  simp only [toP_lst, List.map_nil, PyData.eqv, eqvAll_nil]
  cases xs <;> simp
theorem str_nice {z : Str} (h : okZ z) : pureD (.str z) = true ∧ (toP (.str z)).canLay0 = true ∧ (toP (.str z)).depth ≤ 60 := ⟨pu_str, Enc.can (α := Str) z h, Nat.le_trans (Enc.depth (α := Str) z) (by decide)⟩
theorem int_nice {i : Int} : pureD (.int i) = true ∧ (toP (.int i)).canLay0 = true ∧ (toP (.int i)).depth ≤ 60 := ⟨pu_int, Enc.can (α := Int) i trivial, Nat.le_trans (Enc.depth (α := Int) i) (by decide)⟩
theorem lot_nice {l : List Int} : pureD (.lst (l.map .int)) = true ∧ (toP (.lst (l.map .int))).canLay0 = true ∧ (toP (.lst (l.map .int))).depth ≤ 60 := ⟨Enc.pur (α := List Int) l, Enc.can (α := List Int) l (okL l), Nat.le_trans (Enc.depth (α := List Int) l) (by decide)⟩
@[simp] theorem lcR_ifn' {α : Type} {p : α → Prop} [∀ x, Decidable (p x)] {F : α → D} {xs : List α} {st : Store} (hl : xs.length ≤ line) : lcR (fun x st => if p x then .ok none st else .ok (some (F x)) st) xs st = .ok (.lst ((xs.filter fun x => !decide (p x)).map F)) st := lcR_if (fun x => !decide (p x)) F hl fun x _ => by by_cases h : p x <;> simp [h]
theorem lcGo_pureM {α : Type} {enc : α → D} {w : Walk} {f : D → Store → R (Option D)} {g : α → Option D} {st : Store} (hw : still w st = true) : ∀ (ds : List α) (acc : List D), (∀ d ∈ ds, f (enc d) st = .ok (g d) st) → acc.length + ds.length ≤ line → lcGo w f (ds.map enc) acc st = .ok (acc ++ ds.filterMap g) st
  | [], acc, _, _ => by
    rw [List.map_nil, lcGo, if_pos hw]
    simp
  | d :: ds, acc, h, hl => by
    rw [List.map_cons, lcGo, if_pos hw, h d List.mem_cons_self]
    have hl : acc.length + (ds.length + 1) ≤ line := hl
    have h' : ∀ e ∈ ds, f (enc e) st = .ok (g e) st := fun e he => h e (List.mem_cons_of_mem _ he)
    cases hg : g d with
    | none =>
      rw [R.bind_ok]
      show lcGo w f (ds.map enc) acc st = _
      rw [lcGo_pureM hw ds acc h' (by omega), List.filterMap_cons_none hg]
    | some y =>
      rw [R.bind_ok]
      show (if acc.length < line then lcGo w f (ds.map enc) (acc ++ [y]) st else .bad) = _
      rw [if_pos (by omega), lcGo_pureM hw ds (acc ++ [y]) h' (by rw [List.length_append]; simp only [List.length_cons, List.length_nil]; omega), List.filterMap_cons_some hg, List.append_assoc]
      rfl
theorem fm_if {α β : Type} {p : α → Bool} {F : α → β} : ∀ xs : List α, xs.filterMap (fun x => if p x then some (F x) else none) = (xs.filter p).map F
  | [] => rfl
  | a :: r => by
    rw [List.filterMap_cons, fm_if r, List.filter_cons]
    cases p a <;> rfl
/-- a comprehension over a list in a cell -/
theorem lcW_if {α : Type} {enc : α → D} {w : Walk} {f : D → Store → R (Option D)} {st : Store} {xs : List α} (hi : w.its = xs.map enc) (hw : still w st = true) (p : α → Bool) (F : α → D) (hl : xs.length ≤ line) (h : ∀ x ∈ xs, f (enc x) st = if p x then .ok (some (F x)) st else .ok none st) : lcW f w st = .ok (.lst ((xs.filter p).map F)) st := by
  unfold lcW
  rw [hi, lcGo_pureM (g := fun x => if p x then some (F x) else none) hw xs [] (fun x hx => by rw [h x hx]; split <;> rfl) (by simpa using hl), fm_if]
  rfl
def orO : Option Bool → Option Bool → Option Bool
  | some a, some b => some (a || b)
  | _, _ => none
@[simp] theorem orO_some {a b : Bool} : orO (some a) (some b) = some (a || b) := (rfl)
section
variable {st : Store} {t : Ty}
@[simp] theorem tys_nil {d : D} : tysIs st [] d = some false := (rfl)
@[simp] theorem tys_cons {ts : List Ty} {d : D} : tysIs st (t :: ts) d = orO (tyIs st t d) (tysIs st ts d) := (rfl)
@[simp] theorem ty_non : tyIs st t .non = some false := (rfl)
@[simp] theorem ty_bl {b : Bool} : tyIs st t (.bl b) = some (match t with | .int => true | .bool => true | _ => false) := (rfl)
@[simp] theorem ty_int {i : Int} : tyIs st t (.int i) = some (match t with | .int => true | _ => false) := (rfl)
@[simp] theorem qty_str {z : Str} : tyIs st t (.str z) = some (match t with | .str => true | _ => false) := (rfl)
@[simp] theorem ty_lst {ds : List D} : tyIs st t (.lst ds) = some (match t with | .list => true | _ => false) := (rfl)
@[simp] theorem ty_tup {ds : List D} : tyIs st t (.tup ds) = some (match t with | .tuple => true | _ => false) := (rfl)
@[simp] theorem ty_dic {ds : List (L2.Key × D)} : tyIs st t (.dic ds) = some (match t with | .dict => true | _ => false) := (rfl)
@[simp] theorem isi_bl {b : Bool} : isiD st t (.bl b) = (match t with | .exc k => none | .int => some true | .bool => some true | _ => some false) := by cases t <;> rfl
@[simp] theorem isi_non : isiD st t .non = (match t with | .exc k => none | _ => some false) := by cases t <;> rfl
@[simp] theorem isi_tup {ds : List D} : isiD st t (.tup ds) = (match t with | .exc k => none | .tuple => some true | _ => some false) := by cases t <;> rfl
@[simp] theorem isi_dic {ds : List (L2.Key × D)} : isiD st t (.dic ds) = (match t with | .exc k => none | .dict => some true | _ => some false) := by cases t <;> rfl
end
theorem allB_true {α : Type} {xs : List α} : allB (xs.map fun _ => true) = true := by
  rw [allB_map]
  simp
theorem get_cel {st : Store} {k : Nat} {j : Nat} {ds : List D} (h : st[k]? = some (.lst ds)) (hl : ds.length ≤ line) : getD st (.cel k) (.int (j : Int)) = ds[j]? := by
  show (if (0 : Int) ≤ (j : Int) then (match st[k]? with | some (.lst ds) => if ds.length ≤ line then ds[(j : Int).toNat]? else none | _ => none) else none) = _
  rw [if_pos (by omega), h]
  exact if_pos hl
theorem ixN_lt {n : Nat} {i : Nat} (h : i < n) : L2.ixN n (i : Int) = some i := by
  unfold L2.ixN
  rw [if_pos (by omega), if_pos (by omega)]
  rfl
/-- a comprehension while the store changes -/
theorem lcP_st {α : Type} {f : α → Store → R (Option D)} (Inv : Nat → Store → Prop) (Q : D → Prop) {n : Nat} : ∀ (xs : List α) (acc : List D) (i : Nat) (st : Store), (i + xs.length ≤ n) → (∀ x ∈ xs, ∀ i st, i < n → Inv i st → ∃ o st', f x st = .ok o st' ∧ Inv (i + 1) st' ∧ ∀ y, o = some y → Q y) → Inv i st → acc.length + xs.length ≤ line → (∀ y ∈ acc, Q y) →
    ∃ ys st', lcP f xs acc st = .ok ys st' ∧ Inv (i + xs.length) st' ∧ (∀ y ∈ ys, Q y) ∧ ys.length ≤ acc.length + xs.length
  | [], acc, i, st, _, _, h, _, hq => ⟨acc, st, rfl, h, hq, Nat.le_refl _⟩
  | x :: xs, acc, i, st, hn, hf, h, hl, hq => by
    have hn : i + (xs.length + 1) ≤ n := hn
    have hl : acc.length + (xs.length + 1) ≤ line := hl
    obtain ⟨o, st1, e1, h1, q1⟩ := hf x List.mem_cons_self i st (by omega) h
    have hf' : ∀ x ∈ xs, ∀ i st, i < n → Inv i st → ∃ o st', f x st = .ok o st' ∧ Inv (i + 1) st' ∧ ∀ y, o = some y → Q y := fun y hy => hf y (List.mem_cons_of_mem _ hy)
    rw [lcP, e1, R.bind_ok]
    cases o with
    | none =>
      obtain ⟨ys, st2, e2, h2, q2, l2⟩ := lcP_st Inv Q xs acc (i + 1) st1 (by omega) hf' h1 (by omega) hq
      refine ⟨ys, st2, e2, ?_, q2, ?_⟩
      · rw [List.length_cons, show i + (xs.length + 1) = i + 1 + xs.length by omega]; exact h2
      · rw [List.length_cons]; omega
    | some y =>
      obtain ⟨ys, st2, e2, h2, q2, l2⟩ := lcP_st Inv Q xs (acc ++ [y]) (i + 1) st1 (by omega) hf' h1 (by simp; omega) (fun z hz => by
        rcases List.mem_append.mp hz with hz | hz
        · exact hq z hz
        · rw [List.mem_singleton.mp hz]; exact q1 y rfl)
      refine ⟨ys, st2, ?_, ?_, q2, ?_⟩
      · show (if acc.length < line then lcP f xs (acc ++ [y]) st1 else .bad) = _
        rw [if_pos (by omega)]; exact e2
      · rw [List.length_cons, show i + (xs.length + 1) = i + 1 + xs.length by omega]; exact h2
      · rw [List.length_append] at l2; simp at l2 ⊢; omega
/-- it comes to a value, of which P holds -/
def R.sat {α : Type} (r : R α) (P : α → Store → Prop) : Prop := match r with
  | .ok a st => P a st
  | _ => False
@[simp] theorem sat_ok {α : Type} {a : α} {st : Store} {P : α → Store → Prop} : (R.ok a st).sat P = P a st := (rfl)
theorem sat_ex {α : Type} {r : R α} {P : α → Store → Prop} (h : r.sat P) : ∃ a st, r = .ok a st ∧ P a st := by
  cases r <;> first | exact h.elim | exact ⟨_, _, rfl, h⟩
theorem lcR_st {α : Type} {f : α → Store → R (Option D)} (Inv : Nat → Store → Prop) (Q : D → Prop) {xs : List α} {st : Store} (hl : xs.length ≤ line) (h : Inv 0 st) (hf : ∀ x ∈ xs, ∀ i st, i < xs.length → Inv i st → (f x st).sat fun o st' => Inv (i + 1) st' ∧ ∀ y, o = some y → Q y) :
    (lcR f xs st).sat fun d st' => ∃ ys, d = .lst ys ∧ Inv xs.length st' ∧ (∀ y ∈ ys, Q y) ∧ ys.length ≤ xs.length := by
  obtain ⟨ys, st', e, h1, h2, h3⟩ := lcP_st Inv Q (n := xs.length) xs [] 0 st (by omega) (fun x hx i st hi h => by
    obtain ⟨o, st', e, h⟩ := sat_ex (hf x hx i st hi h)
    exact ⟨o, st', e, h⟩) h (by simpa using hl) (by simp)
  unfold lcR
  rw [e]
  exact ⟨ys, rfl, by simpa using h1, h2, by simpa using h3⟩
theorem exists_map {α β : Type} {f : α → β} {P : α → Prop} : ∀ ys : List β, (∀ y ∈ ys, ∃ x, y = f x ∧ P x) → ∃ xs : List α, ys = xs.map f ∧ ∀ x ∈ xs, P x
  | [], _ => ⟨[], rfl, by simp⟩
  | y :: ys, h => by
    obtain ⟨x, rfl, hx⟩ := h y List.mem_cons_self
    obtain ⟨xs, rfl, hxs⟩ := exists_map ys fun z hz => h z (List.mem_cons_of_mem _ hz)
    exact ⟨x :: xs, rfl, by simpa using ⟨hx, hxs⟩⟩
theorem pop_cel {st : Store} {k j : Nat} {ds : List D} (h : st[k]? = some (.lst ds)) (hl : ds.length ≤ line) (hj : j < ds.length) : metD st .popAt (.cel k) [.int (j : Int)] = some (ds[j], st.set k (.lst (ds.eraseIdx j))) := by
  show (match st[k]? with | some (.lst ds) => if ds.length ≤ line then (match L2.ixN ds.length (j : Int) with | some j => (ds[j]?).map fun y => (y, st.set k (.lst (ds.eraseIdx j))) | none => none) else none | _ => none) = _
  rw [h]
  show (if ds.length ≤ line then (match L2.ixN ds.length (j : Int) with | some j => (ds[j]?).map fun y => (y, st.set k (.lst (ds.eraseIdx j))) | none => none) else none) = _
  rw [if_pos hl, ixN_lt hj]
  simp [hj]
section
theorem set_app0 {α : Type} (l : List α) (a c x : α) : (l ++ [a, c]).set l.length x = l ++ [x, c] := by
  induction l with
  | nil => rfl
  | cons y l ih => exact congrArg (y :: ·) ih
theorem set_app1 {α : Type} (l : List α) (a c x : α) : (l ++ [a, c]).set (l.length + 1) x = l ++ [a, x] := by
  induction l with
  | nil => rfl
  | cons y l ih => exact congrArg (y :: ·) ih
theorem get_app1 {α : Type} (l : List α) (a c : α) : (l ++ [a, c])[l.length + 1]? = some c := by
  induction l with
  | nil => rfl
  | cons y l ih => simpa using ih
variable {p a c x : Cell} {tl : Store}
theorem two_a : (p :: (tl ++ [a, c]))[tl.length + 1]? = some a := by simp
theorem two_c : (p :: (tl ++ [a, c]))[tl.length + 1 + 1]? = some c := get_app1 (p :: tl) a c
theorem set_a : (p :: (tl ++ [a, c])).set (tl.length + 1) x = p :: (tl ++ [x, c]) := set_app0 (p :: tl) a c x
theorem set_c : (p :: (tl ++ [a, c])).set (tl.length + 1 + 1) x = p :: (tl ++ [a, x]) := set_app1 (p :: tl) a c x
end
end MP
end
section
set_option maxRecDepth 100000
set_option maxHeartbeats 4000000
/-! MPStr: texts, their lengths, their signs. -/
namespace MP
open PySem PySem.Builtin.Str
/-- a text as it may be handed on -/
structure Tx (N : Nat) (z : Str) : Prop where
  len : z.length ≤ N
  ok : okZ z
theorem ok_lit {s : String} (h : PyData.strOk (Str.ofString s) = true) : okZ (Str.ofString s) := h
theorem ok_of {z : Str} (h : PyData.strOk z = true) : okZ z := h
theorem qokS {s : String} (h : (PyData.strOk (Str.ofString s)) = true) : okZ (Str.ofString s) := h
theorem split_pos (z b : Str) : ∃ a r, Txt.split z b = a :: r := by
  unfold Txt.split
  split
  · exact ⟨_, _, rfl⟩
  · split
    · exact ⟨_, _, rfl⟩
    · unfold partsBetween
      cases occurrences z b 0 z.length (z.length + 1) with
      | nil => exact ⟨_, _, rfl⟩
      | cons i r => exact ⟨_, _, rfl⟩
theorem sub_len (z : Str) (i j : Nat) : (strSub z i j).length ≤ z.length := by
  show (z.cps.extract i j).size ≤ z.cps.size
  rw [Array.size_extract]
  omega
theorem okZ_iff {z : Str} : okZ z ↔ ∀ c ∈ z.cps.toList, c < 1114112 := by
  show z.cps.all (· < 0x110000) = true ↔ _
  rw [← Array.all_toList, List.all_eq_true]
  simp
theorem sub_ok {z : Str} (h : okZ z) (i j : Nat) : okZ (strSub z i j) := by
  rw [okZ_iff] at h ⊢
  intro c hc
  refine h c ?_
  have hc : c ∈ (z.cps.extract i j).toList := hc
  rw [Array.mem_toList_iff] at hc ⊢
  obtain ⟨k, hk, rfl⟩ := Array.mem_extract_iff_getElem.mp hc
  simp
theorem Tx.mono {N M : Nat} {z : Str} (h : Tx N z) (hl : N ≤ M) : Tx M z := ⟨Nat.le_trans h.len hl, h.ok⟩
theorem split_tx {N : Nat} {z b : Str} (h : Tx N z) : ∀ w ∈ Txt.split z b, Tx N w := by
  intro w hw
  unfold Txt.split at hw
  split at hw
  · rw [List.mem_singleton.mp hw]; exact h
  · split at hw
    · rw [List.mem_singleton.mp hw]; exact h
    · unfold partsBetween at hw
      obtain ⟨⟨i, j⟩, _, rfl⟩ := List.mem_map.mp hw
      exact ⟨Nat.le_trans (sub_len z i j) h.len, sub_ok h.ok i j⟩
theorem split_count (z b : Str) : (Txt.split z b).length ≤ z.length + 2 := by
  unfold Txt.split
  split
  · simp
  · split
    · simp
    · rw [PySem.length_partsBetween]
      have := StrLaws.occ_length_le z b 0 z.length (z.length + 1)
      omega
@[simp] theorem len_hash : (Str.ofString "#").length = 1 := by decide +kernel
@[simp] theorem len_sp : (Str.ofString " ").length = 1 := by decide +kernel
@[simp] theorem len_nl : (Str.ofString "\n").length = 1 := by decide +kernel
theorem okC {z : Str} (hz : okZ z) {c : Nat} (hc : c ∈ z.cps.toList) : okZ ⟨#[c]⟩ := by
  rw [okZ_iff] at hz ⊢
  intro d hd
  simp at hd
  exact hd ▸ hz c hc
theorem char_lt (c : Char) : c.toNat < 1114112 := by
  have := c.valid
  unfold UInt32.isValidChar Nat.isValidChar at this
  show c.val.toNat < 1114112
  omega
theorem reprChar_lt {q c : Nat} (hq : q < 1114112) (hc : c < 1114112) : ∀ d ∈ reprChar q c, d < 1114112 := by
  have hx : ∀ w, ∀ d ∈ (List.replicate (w - ((Nat.toDigits 16 c).map Char.toNat).length) 48 ++ (Nat.toDigits 16 c).map Char.toNat), d < 1114112 := by
    intro w d hd
    rcases List.mem_append.mp hd with h | h
    · rw [(List.mem_replicate.mp h).2]; decide
    · obtain ⟨k, _, rfl⟩ := List.mem_map.mp h
      exact char_lt k
  unfold reprChar
  dsimp only
  intro d hd
  repeat' split at hd
  all_goals first
    | (simp at hd; omega)
    | (rcases List.mem_append.mp hd with h | h
       · simp at h; omega
       · exact hx _ d h)
theorem foldl_lt {q : Nat} (hq : q < 1114112) : ∀ (l : List Nat) (acc : Array Nat), (∀ c ∈ l, c < 1114112) → (∀ c ∈ acc.toList, c < 1114112) → ∀ c ∈ (l.foldl (fun out c => out ++ (reprChar q c).toArray) acc).toList, c < 1114112
  | [], acc, _, h => h
  | x :: l, acc, hl, h => by
    rw [List.foldl_cons]
    refine foldl_lt hq l _ (fun c hc => hl c (List.mem_cons_of_mem _ hc)) fun c hc => ?_
    rw [Array.toList_append] at hc
    rcases List.mem_append.mp hc with h1 | h1
    · exact h c h1
    · exact reprChar_lt hq (hl x List.mem_cons_self) c (by simpa using h1)
theorem repr_ok {z : Str} (hz : okZ z) : okZ (reprText z) := by
  rw [okZ_iff] at hz ⊢
  have hq : reprQuote z < 1114112 := by unfold reprQuote; split <;> decide
  intro c hc
  unfold reprText at hc
  simp only [Array.toList_push] at hc
  rw [← Array.foldl_toList] at hc
  rcases List.mem_append.mp hc with h | h
  · exact foldl_lt hq _ _ hz (by intro d hd; simp at hd; omega) c h
  · rw [List.mem_singleton.mp h]; exact hq
theorem repr_str {z : Str} {st : Store} (hz : okZ z) (hl : 10 * z.length + 2 ≤ line) : reprD st (.str z) = some (reprText z) := by
  have h1 : (reprText z).length ≤ line := Nat.le_trans (StrLaws.reprText_len z fun c hc => Nat.lt_trans (okZ_iff.mp hz c hc) (by decide)) hl
  show (if _ then _ else _) = _
  rw [if_pos]
  · rfl
  · simp [PyData.showable, PyData.depth, PyData.shown, h1]
/-- a plain value: whole numbers, texts, none; k deep -/
inductive Nice : Nat → D → Prop
  | non {k : Nat} : Nice k .non
  | int {k : Nat} {i : Int} : Nice k (.int i)
  | str {k : Nat} {z : Str} : okZ z → Nice k (.str z)
  | lst {k : Nat} {ds : List D} : ds.length ≤ line → (∀ d ∈ ds, Nice k d) → Nice (k + 1) (.lst ds)
  | tup {k : Nat} {ds : List D} : ds.length ≤ line → (∀ d ∈ ds, Nice k d) → Nice (k + 1) (.tup ds)
theorem Nice.fr {k : Nat} {d : D} (h : Nice k d) : freeD d = true := by
  induction h with
  | non => simp
  | int => simp
  | str => simp
  | lst _ _ ih => rw [fr_lst, freeDs_all, List.all_eq_true]; exact ih
  | tup _ _ ih => rw [fr_tup, freeDs_all, List.all_eq_true]; exact ih
theorem zip_self (ds : List D) : ds.zip ds = ds.map fun d => (d, d) := by
  induction ds with
  | nil => rfl
  | cons a r ih => simp [ih]
theorem foldM_inv {ε α S : Type} (P : S → Prop) {step : S → α → Except ε S} : ∀ (xs : List α) (s s' : S), (∀ x ∈ xs, ∀ s s', P s → step s x = .ok s' → P s') → P s → xs.foldlM step s = .ok s' → P s'
  | [], s, s', _, h, e => by cases e; exact h
  | x :: xs, s, s', hf, h, e => by
    rw [List.foldlM_cons] at e
    cases e1 : step s x with
    | error y => rw [e1] at e; cases e
    | ok s1 =>
      rw [e1] at e
      exact foldM_inv P xs s1 s' (fun y hy => hf y (List.mem_cons_of_mem _ hy)) (hf x List.mem_cons_self s s1 h e1) e
/-! ### texts put together -/
theorem app_len (x y : Str) : (x ++ y).length = x.length + y.length := Str.length_append x y
theorem app_ok {x y : Str} (hx : okZ x) (hy : okZ y) : okZ (x ++ y) := by
  rw [okZ_iff] at hx hy ⊢
  intro c hc
  have hc : c ∈ (x.cps ++ y.cps).toList := hc
  rw [Array.toList_append] at hc
  rcases List.mem_append.mp hc with h | h
  · exact hx c h
  · exact hy c h
theorem app_tx {N M : Nat} {x y : Str} (hx : Tx N x) (hy : Tx M y) : Tx (N + M) (x ++ y) := ⟨by rw [app_len]; exact Nat.add_le_add hx.len hy.len, app_ok hx.ok hy.ok⟩
theorem join_ok {sep : Str} (hs : okZ sep) : ∀ zs : List Str, (∀ z ∈ zs, okZ z) → okZ (Str.join sep zs)
  | [], _ => by show okZ Str.empty; rw [okZ_iff]; intro c hc; simp [Str.empty] at hc
  | [x], h => h x List.mem_cons_self
  | x :: y :: r, h => app_ok (app_ok (h x List.mem_cons_self) hs) (join_ok hs (y :: r) fun z hz => h z (List.mem_cons_of_mem _ hz))
theorem sum_le {M : Nat} : ∀ zs : List Str, (∀ z ∈ zs, z.length ≤ M) → (zs.map Str.length).sum ≤ zs.length * M
  | [], _ => by simp
  | x :: r, h => by
    have h1 := h x List.mem_cons_self
    have h2 := sum_le r fun z hz => h z (List.mem_cons_of_mem _ hz)
    simp only [List.map_cons, List.sum_cons, List.length_cons, Nat.succ_mul]
    omega
theorem join_tx {M S : Nat} {sep : Str} {zs : List Str} (hs : Tx S sep) (h : ∀ z ∈ zs, Tx M z) : Tx (zs.length * M + zs.length * S) (Txt.join sep zs) := by
  have e : Txt.join sep zs = Str.join sep zs := StrLaws.glued_eq_join sep zs
  rw [e]
  refine ⟨?_, join_ok hs.ok zs fun z hz => (h z hz).ok⟩
  have h1 := StrLaws.join_length_le sep zs
  have h2 := sum_le zs fun z hz => (h z hz).len
  have h3 : zs.length * sep.length ≤ zs.length * S := Nat.mul_le_mul_left _ hs.len
  exact Nat.le_trans h1 (Nat.add_le_add h2 h3)
theorem join_fit {M S C N : Nat} {sep : Str} {zs : List Str} (hs : Tx S sep) (h : ∀ z ∈ zs, Tx M z) (hc : zs.length ≤ C) (hN : C * M + C * S ≤ N) : (zs.map Str.length).sum + zs.length * sep.length ≤ N ∧ Tx N (Txt.join sep zs) := by
  have h2 := sum_le zs fun z hz => (h z hz).len
  have h3 : zs.length * sep.length ≤ C * S := Nat.mul_le_mul hc hs.len
  have h4 : zs.length * M ≤ C * M := Nat.mul_le_mul_right _ hc
  have h5 : zs.length * S ≤ C * S := Nat.mul_le_mul_right _ hc
  exact ⟨by omega, (join_tx hs h).mono (by omega)⟩
theorem cut_tx {N : Nat} {z : Str} (h : Tx N z) (a b : Option Int) : Tx N (L2.cutS z a b) := by
  constructor
  · refine Nat.le_trans ?_ h.len
    show (List.toArray _).size ≤ z.cps.size
    rw [List.size_toArray, List.length_take, List.length_drop, Array.length_toList]
    omega
  · have := h.ok
    rw [okZ_iff] at this ⊢
    intro c hc
    refine this c ?_
    have hc : c ∈ (List.toArray _).toList := hc
    rw [List.toList_toArray] at hc
    exact List.mem_of_mem_drop (List.mem_of_mem_take hc)
theorem slc_str {z : Str} {st : Store} (h : z.length ≤ line) {a b : Option Int} : slcD st (.str z) a b = some (.str (L2.cutS z a b)) := if_pos h
theorem lit_tx {s : String} {N : Nat} (h : (decide ((Str.ofString s).length ≤ N) && PyData.strOk (Str.ofString s)) = true) : Tx N (Str.ofString s) := by
  rw [Bool.and_eq_true, decide_eq_true_eq] at h
  exact ⟨h.1, h.2⟩
/-- a figure written -/
theorem str_fig {i : Int} (h0 : 0 ≤ i) (h1 : i < 10) : i.natAbs.log2 < 1920 ∧ Tx 1 (Str.ofString (toString i)) := by
  have : i = 0 ∨ i = 1 ∨ i = 2 ∨ i = 3 ∨ i = 4 ∨ i = 5 ∨ i = 6 ∨ i = 7 ∨ i = 8 ∨ i = 9 := by omega
  rcases this with rfl | rfl | rfl | rfl | rfl | rfl | rfl | rfl | rfl | rfl <;> exact ⟨by decide +kernel, lit_tx (by decide +kernel)⟩
theorem mem_cutL {α : Type} {xs : List α} {a b : Option Int} {x : α} (h : x ∈ cutL xs a b) : x ∈ xs := List.mem_of_mem_drop (List.mem_of_mem_take h)
theorem cutL_len {α : Type} {xs : List α} {a b : Option Int} : (cutL xs a b).length ≤ xs.length := by
  unfold cutL
  rw [List.length_take, List.length_drop]
  omega
def sumL (zs : List Str) : Nat := (zs.map Str.length).sum
@[simp] theorem sumL_nil : sumL [] = 0 := rfl
@[simp] theorem sumL_cons {z : Str} {zs : List Str} : sumL (z :: zs) = z.length + sumL zs := by simp [sumL]
@[simp] theorem sumL_app {a b : List Str} : sumL (a ++ b) = sumL a + sumL b := by simp [sumL]
theorem glued_len (sep : Str) : ∀ zs : List Str, sumL zs ≤ (Str.join sep zs).length
  | [] => Nat.zero_le _
  | [x] => by simp [Str.join]
  | x :: y :: r => by
    have ih := glued_len sep (y :: r)
    show _ ≤ (x ++ sep ++ Str.join sep (y :: r)).length
    rw [app_len, app_len]
    rw [sumL_cons]
    omega
theorem split_sum (z b : Str) : sumL (Txt.split z b) ≤ z.length := by
  unfold Txt.split
  split
  · simp
  · split
    · simp
    · have h := glued_len b (partsBetween z (occurrences z b 0 z.length (z.length + 1)) b.length)
      rw [← StrLaws.glued_eq_join, StrLaws.glued_between_self] at h
      exact h
/-- texts, so long in all, so many -/
structure GL (S C : Nat) (zs : List Str) : Prop where
  ok : ∀ z ∈ zs, okZ z
  sum : sumL zs ≤ S
  len : zs.length ≤ C
theorem sum_take_le : ∀ (n : Nat) (zs : List Str), sumL (zs.take n) ≤ sumL zs
  | 0, _ => by simp
  | _ + 1, [] => by simp
  | n + 1, z :: zs => by
    have := sum_take_le n zs
    rw [List.take_succ_cons, sumL_cons, sumL_cons]
    omega
theorem sum_drop_le : ∀ (n : Nat) (zs : List Str), sumL (zs.drop n) ≤ sumL zs
  | 0, _ => by simp
  | _ + 1, [] => by simp
  | n + 1, z :: zs => by
    have := sum_drop_le n zs
    rw [List.drop_succ_cons, sumL_cons]
    omega
theorem GL.cut {S C : Nat} {zs : List Str} (h : GL S C zs) (a b : Option Int) : GL S C (cutL zs a b) :=
  ⟨fun z hz => h.ok z (mem_cutL hz), Nat.le_trans (sum_take_le _ _) (Nat.le_trans (sum_drop_le _ _) h.sum), Nat.le_trans cutL_len h.len⟩
theorem GL.app {S C S' C' : Nat} {a b : List Str} (h : GL S C a) (h' : GL S' C' b) : GL (S + S') (C + C') (a ++ b) :=
  ⟨fun z hz => (List.mem_append.mp hz).elim (h.ok z) (h'.ok z), by rw [sumL_app]; exact Nat.add_le_add h.sum h'.sum, by rw [List.length_append]; exact Nat.add_le_add h.len h'.len⟩
theorem GL.rev {S C : Nat} {zs : List Str} (h : GL S C zs) : GL S C zs.reverse :=
  ⟨fun z hz => h.ok z (List.mem_reverse.mp hz), by unfold sumL; rw [List.map_reverse, List.sum_reverse]; exact h.sum, by rw [List.length_reverse]; exact h.len⟩
theorem GL.tail {S C : Nat} {zs : List Str} (h : GL S C zs) : GL S C zs.tail := by
  rw [← List.drop_one]
  exact ⟨fun z hz => h.ok z (List.mem_of_mem_drop hz), Nat.le_trans (sum_drop_le _ _) h.sum, Nat.le_trans (by rw [List.length_drop]; omega) h.len⟩
theorem GL.one {N : Nat} {z : Str} (h : Tx N z) : GL N 1 [z] := ⟨by simpa using h.ok, by simpa using h.len, by simp⟩
theorem GL.join {S C N M : Nat} {sep : Str} {zs : List Str} (h : GL S C zs) (hs : Tx M sep) (hN : S + C * M ≤ N) (hN2 : N ≤ line) : Tx N (Txt.join sep zs) ∧ ∀ st d, (items st d).bind strsD = some zs → metD st .join (.str sep) [d] = some (.str (Txt.join sep zs), st) := by
  have h1 : (zs.map Str.length).sum ≤ S := h.sum
  have h3 : zs.length * sep.length ≤ C * M := Nat.mul_le_mul h.len hs.len
  refine ⟨⟨?_, ?_⟩, fun st d e => join_strs e (by omega)⟩
  · have e : Txt.join sep zs = Str.join sep zs := StrLaws.glued_eq_join sep zs
    rw [e]
    have := StrLaws.join_length_le sep zs
    have h5 : (zs.map (·.length)).sum = (zs.map Str.length).sum := rfl
    omega
  · have e : Txt.join sep zs = Str.join sep zs := StrLaws.glued_eq_join sep zs
    rw [e]
    exact join_ok hs.ok zs h.ok
theorem repl_len (a : Array Nat) : ∀ (k : Nat) (acc : Array Nat), ((List.replicate k a).foldl (· ++ ·) acc).size = acc.size + k * a.size
  | 0, acc => by simp
  | k + 1, acc => by
    rw [List.replicate_succ, List.foldl_cons, repl_len a k, Array.size_append, Nat.succ_mul]
    omega
theorem repl_mem (a : Array Nat) : ∀ (k : Nat) (acc : Array Nat), ∀ c ∈ ((List.replicate k a).foldl (· ++ ·) acc).toList, c ∈ acc.toList ∨ c ∈ a.toList
  | 0, acc, c, h => .inl h
  | k + 1, acc, c, h => by
    rw [List.replicate_succ, List.foldl_cons] at h
    rcases repl_mem a k _ c h with h | h
    · rw [Array.toList_append] at h
      exact List.mem_append.mp h
    · exact .inr h
theorem mul_tx {z : Str} {k : Nat} (h2 : 2 ≤ k) (hz : 0 < z.length) (ho : okZ z) : Tx (k * z.length) (Txt.mul z (k : Int)) := by
  have e : Txt.mul z (k : Int) = ⟨(List.replicate k z.cps).foldl (· ++ ·) #[]⟩ := by
    unfold Txt.mul
    rw [if_neg (by omega), if_neg (by simp; omega)]
    rfl
  rw [e]
  refine ⟨?_, ?_⟩
  · show Array.size _ ≤ _
    rw [repl_len]
    show 0 + k * z.length ≤ _
    omega
  · rw [okZ_iff] at ho ⊢
    intro c hc
    rcases repl_mem z.cps k #[] c hc with h | h
    · simp at h
    · exact ho c h
theorem bin_mul {st : Store} {z : Str} {k : Nat} (h2 : 2 ≤ k) (h : k ≤ 1000000) (hz : 0 < z.length) (hl : z.length * k ≤ line) : binD st .mul (.str z) (.int (k : Int)) = some (.str (Txt.mul z (k : Int))) := by
  have hc : (decide (2 ≤ (k : Int)) && decide ((k : Int) ≤ 1000000) && decide (0 < z.length) && decide (z.length * (k : Int).toNat ≤ line)) = true := by
    simp
    exact ⟨⟨⟨by omega, by omega⟩, hz⟩, hl⟩
  exact if_pos (c := _ = true) hc
end MP
end
section
set_option maxRecDepth 100000
set_option maxHeartbeats 4000000
namespace MP
namespace L
open PySem PySem.Builtin.Str
def WH : Nat := 400
/-- a call, n deep -/
def rn (n f : Nat) (ds : List D) (st : Store) : R D := MP.run (fun i => fl[i]?) (conOf nums) 400 NF n f ds st
def cx (n : Nat) : Cxt := ⟨rn n, conOf nums, 400, NF⟩
@[simp] theorem cx_cal {n : Nat} : (cx n).cal = rn n := (rfl)
@[simp] theorem cx_nf {n : Nat} : (cx n).nf = NF := (rfl)
@[simp] theorem cx_whl {n : Nat} : (cx n).whl = 400 := (rfl)
@[simp] theorem cx_con {n : Nat} {g : Nat} : (cx n).con g = conOf nums g := (rfl)
theorem rn_succ {n f : Nat} {fn : Fn} {ds : List D} {st : Store} (h : fl[f]? = some fn) : rn (n + 1) f ds st = if ds.length = fn.ar then outR (exs (cx n) fn.body (ds.map some ++ List.replicate (fn.sl - ds.length) none) st) else .bad := by
  rw [← run1_eq]
  show MP.run _ _ _ _ _ _ _ _ = _
  rw [MP.run]
  simp only [h]
  rfl
/-! ### numbers, lots -/
@[simp] theorem s_is_whole {n : Nat} {i : Int} {st : Store} : rn (n + 1) f_is_whole [.int i] st = .ok (.bl true) st := by
  rw [rn_succ lk_is_whole]
  simp [b_is_whole]
/-- ascending -/
def asc (l : List Int) : Bool := allB ((List.range (l.length - 1)).map fun k => decide (l[k]?.getD 0 < l[k + 1]?.getD 0))
def inM (many : Int) (l : List Int) : Bool := allB (l.map fun i => decide (0 ≤ i) && decide (i < many))
def lotB (many : Int) (l : List Int) : Bool := inM many l && asc l
@[simp] theorem s_is_lot_by {n : Nat} {many : Int} {l : List Int} {st : Store} (hl : l.length ≤ line) : rn (n + 2) f_is_lot_by [.int many, .lst (l.map .int)] st = .ok (.bl (lotB many l)) st := by
  rw [rn_succ lk_is_lot_by]
  simp [b_is_lot_by, hl]
  rw [lcR_ok (F := fun k => .bl (decide (l[k]?.getD 0 < l[k + 1]?.getD 0)))]
  · simp
    unfold lotB inM asc
    cases allB (l.map fun i => decide (0 ≤ i) && decide (i < many)) <;> simp
  · simp; omega
  · intro k hk
    have hk := List.mem_range.mp hk
    simp [List.getElem?_eq_getElem (show k < l.length by omega), List.getElem?_eq_getElem (show k + 1 < l.length by omega)]
def wit (a b : List Int) : Bool := allB (a.map fun i => decide (i ∈ b))
@[simp] theorem s_is_within {n : Nat} {a b : List Int} {st : Store} (hl : a.length ≤ line) : rn (n + 1) f_is_within [.lst (a.map .int), .lst (b.map .int)] st = .ok (.bl (wit a b)) st := by
  rw [rn_succ lk_is_within]
  simp [b_is_within, hl, wit]
/-! ### words -/
def figs (z : Str) : Bool := allB (z.cps.toList.map fun k => decide (48 ≤ k) && decide (k ≤ 57))
def zero : Str := "0"
theorem in_figs (k : Nat) (st : Store) : inD st (.str ⟨#[k]⟩) (.str "0123456789") = some (decide (48 ≤ k) && decide (k ≤ 57)) := by
  show some _ = _
  rw [StrLaws.found_one]
  congr 1
  have e : (("0123456789" : Str)).cps.toList = [48, 49, 50, 51, 52, 53, 54, 55, 56, 57] := by decide +kernel
  rw [e]
  rw [Bool.eq_iff_iff]
  simp
  omega
@[simp] theorem con_fig : conOf nums g_MOST_FIGURES = some (.int 9) := (rfl)
@[simp] theorem con_tops : conOf nums g_MOST_TOPS = some (.int 20) := (rfl)
@[simp] theorem con_points : conOf nums g_MOST_POINTS = some (.int 7) := (rfl)
/-- a written number of at most nine figures -/
def dig (z : Str) : Bool := decide (0 < z.length) && (decide (z.length ≤ 9) && (figs z && (decide (z = zero) || !decide (z.cps.toList.head? = some 48))))
theorem item0 {z : Str} (h : 0 < z.length) (hl : z.length ≤ line) {st : Store} : subD st (.str z) (.int 0) = some (.str ⟨#[z.cps.toList.head?.getD 0]⟩) := by
  show (if z.length ≤ line then (L2.atI z.cps.toList 0).map (fun c => D.str ⟨#[c]⟩) else none) = _
  rw [if_pos hl, atI_0]
  have : 0 < z.cps.toList.length := by rw [Array.length_toList]; exact h
  cases e : z.cps.toList with
  | nil => rw [e] at this; simp at this
  | cons a r => simp
theorem one_zero {k : Nat} : ((⟨#[k]⟩ : Str) = zero) ↔ k = 48 := by
  have : zero = ⟨#[48]⟩ := by decide +kernel
  rw [this]
  simp
theorem head_ok {z : Str} (hz : okZ z) : okZ ⟨#[z.cps.toList.head?.getD 0]⟩ := by
  have h : z.cps.all (· < 0x110000) = true := hz
  show (#[z.cps.toList.head?.getD 0] : Array Nat).all (· < 0x110000) = true
  rw [Array.all_eq_true] at h
  cases e : z.cps.toList with
  | nil => simp
  | cons a r =>
    have h0 : 0 < z.cps.size := by rw [← Array.length_toList, e]; simp
    have := h 0 h0
    have e2 : z.cps[0] = a := by
      have : z.cps.toList[0]'(by rw [e]; simp) = a := by simp [e]
      rw [← this]; simp
    rw [e2] at this
    simpa using this
theorem ok0 : okZ (Str.ofString "0") := ok_of (by decide +kernel)
@[simp] theorem s_is_digits {n : Nat} {z : Str} {st : Store} (hz : okZ z) (hl : z.length ≤ line) : rn (n + 1) f_is_digits [.str z] st = .ok (.bl (dig z)) st := by
  rw [rn_succ lk_is_digits]
  have hn : z.cps.size ≤ line := hl
  by_cases h0 : 0 < z.length
  · simp [b_is_digits, hn, len_str hl, h0, in_figs, item0 h0 hl, hz, ok0, head_ok hz]
    have e : (⟨#[z.cps.toList.head?.getD 0]⟩ : Str) = Str.ofString "0" ↔ z.cps.toList.head? = some 48 := by
      rw [show Str.ofString "0" = zero from rfl, one_zero]
      have : 0 < z.cps.toList.length := by rw [Array.length_toList]; exact h0
      cases e : z.cps.toList with
      | nil => rw [e] at this; simp at this
      | cons a r => simp
    unfold dig figs
    rw [show (allB (List.map (fun x => decide (48 ≤ x) && decide (x ≤ 57)) z.cps.toList) = allB (List.map (fun x => decide (48 ≤ x) && decide (x ≤ 57)) z.cps.toList)) from rfl]
    simp only [e]
    by_cases h9 : z.length ≤ 9
    · cases allB (List.map (fun x => decide (48 ≤ x) && decide (x ≤ 57)) z.cps.toList) <;> simp [h9, h0, show ¬ (9 < (z.length : Int)) by omega, zero]
      exact congrArg (fun b => decide (z = Str.ofString "0") || !b) (decide_eq_decide.mpr Iff.rfl)
    · simp [show (9 < (z.length : Int)) by omega, h9]
  · have h0 : z.length = 0 := by omega
    simp [b_is_digits, hn, len_str hl, h0, in_figs, dig]
/-- the words of a line -/
def wordsOf (z : Str) : List Str := (Txt.split ((Txt.split z (Str.ofString "#")).headD ⟨#[]⟩) (Str.ofString " ")).filter fun w => decide (w ≠ Str.ofString "")
theorem words_tx {N : Nat} {z : Str} (h : Tx N z) : ∀ w ∈ wordsOf z, Tx N w := by
  intro w hw
  have hw := (List.mem_filter.mp hw).1
  refine split_tx (z := (Txt.split z (Str.ofString "#")).headD ⟨#[]⟩) ?_ w hw
  obtain ⟨a, r, e⟩ := split_pos z (Str.ofString "#")
  rw [e]
  exact split_tx h a (by rw [e]; exact List.mem_cons_self)
theorem words_count {N : Nat} {z : Str} (h : Tx N z) : (wordsOf z).length ≤ N + 2 := by
  obtain ⟨a, r, e⟩ := split_pos z (Str.ofString "#")
  have h1 := (split_tx h (b := Str.ofString "#") a (by rw [e]; exact List.mem_cons_self)).len
  unfold wordsOf
  rw [e]
  refine Nat.le_trans (List.length_filter_le _ _) (Nat.le_trans (split_count _ _) ?_)
  show a.length + 2 ≤ N + 2
  omega
theorem okE : okZ (Str.ofString "") := qokS (by decide +kernel)
@[simp] theorem s_words_of {n N : Nat} {z : Str} {st : Store} (hz : Tx N z) (hl : N + 2 ≤ line) : rn (n + 1) f_words_of [.str z] st = .ok (.lst ((wordsOf z).map .str)) st := by
  rw [rn_succ lk_words_of]
  obtain ⟨a, r, e⟩ := split_pos z (Str.ofString "#")
  have ha := split_tx hz (b := Str.ofString "#") a (by rw [e]; exact List.mem_cons_self)
  have h1 := hz.len
  have h2 := ha.len
  have h3 := split_count a (Str.ofString " ")
  simp [b_words_of, split_str, show z.length + 2 ≤ line by omega, show a.length + 2 ≤ line by omega, e]
  rw [lcR_if (p := fun w => decide (w ≠ Str.ofString "")) (F := fun w => .str w)]
  · simp [wordsOf, e]
  · omega
  · intro w hw
    have := (split_tx ha w hw).ok
    simp [this, okE]
/-! ### numbers in texts -/
def val (z : Str) : Int := (intText? z).getD 0
theorem dig_int {z : Str} (h : dig z = true) : intText? z = some (val z) := by
  unfold dig at h
  simp only [Bool.and_eq_true, decide_eq_true_eq] at h
  obtain ⟨h1, h2, h3, _⟩ := h
  have ha : NumText.AllDigits z.cps.toList := by
    unfold figs at h3
    rw [allB_map, List.all_eq_true] at h3
    intro c hc
    have := h3 c hc
    simpa using this
  have hn : z.cps.toList ≠ [] := by
    intro e
    have : z.cps.toList.length = 0 := by rw [e]; rfl
    rw [Array.length_toList] at this
    have h1 : 0 < z.cps.size := h1
    omega
  have := PySem.intText_digits ha hn (Nat.le_trans h2 (by decide))
  unfold val
  rw [this]
  rfl
theorem dig_len {z : Str} (h : dig z = true) : z.length ≤ 9 := by
  unfold dig at h
  simp only [Bool.and_eq_true, decide_eq_true_eq] at h
  exact h.2.1
def lotIn (many : Int) (ws : List Str) : Option (List Int) := if ws ≠ [] ∧ allB (ws.map dig) = true ∧ lotB many (ws.map val) = true then some (ws.map val) else none
def optL : Option (List Int) → D
  | none => .non
  | some l => .lst (l.map .int)
@[simp] theorem s_lot_in {n N : Nat} {many : Int} {ws : List Str} {st : Store} (hz : ∀ w ∈ ws, Tx N w) (hN : N ≤ line) (hl : ws.length ≤ line) : rn (n + 3) f_lot_in [.int many, .lst (ws.map .str)] st = .ok (optL (lotIn many ws)) st := by
  rw [rn_succ lk_lot_in]
  have hok : ∀ w ∈ ws, okZ w := fun w hw => (hz w hw).ok
  simp [b_lot_in, eq_Z0 hok]
  by_cases h0 : ws = []
  · simp [h0, lotIn, optL]
  · simp [h0]
    rw [lcR_ok (F := fun w => .bl (dig w)) hl]
    · simp
      by_cases hd : allB (ws.map dig) = true
      · simp [hd]
        rw [lcR_ok (F := fun w => .int (val w)) hl]
        · simp only [R.bind_ok, R.thn_ok]
          rw [show List.map (fun w => D.int (val w)) ws = List.map D.int (ws.map val) by rw [List.map_map]; rfl]
          have hx : (ws.map val).length ≤ line := by rw [List.length_map]; exact hl
          unfold lotIn
          generalize ws.map val = vs at *
          by_cases hb : lotB many vs = true
          · simp [hx, hd, hb, h0, optL]
          · simp [hx, hd, hb, h0, optL]
        · intro w hw
          rw [allB_map, List.all_eq_true] at hd
          have h1 := dig_int (hd w hw)
          have h2 := dig_len (hd w hw)
          simp [h1, show w.length ≤ 640 by omega]
      · simp [hd, lotIn, optL]
    · intro w hw
      simp [hok w hw, Nat.le_trans (hz w hw).len hN]
def manyIn (ws : List Str) : Option Int := match ws with
  | [a, b] => if a = Str.ofString "points" ∧ dig b = true ∧ 1 ≤ val b ∧ val b ≤ 7 then some (val b) else none
  | _ => none
def optI : Option Int → D
  | none => .non
  | some i => .int i
theorem okPoints : okZ (Str.ofString "points") := qokS (by decide +kernel)
theorem okTop : okZ (Str.ofString "top") := qokS (by decide +kernel)
@[simp] theorem s_many_in_words {n N : Nat} {ws : List Str} {st : Store} (hz : ∀ w ∈ ws, Tx N w) (hN : N ≤ line) (hl : ws.length ≤ line) : rn (n + 3) f_many_in_words [.lst (ws.map .str)] st = .ok (optI (manyIn ws)) st := by
  rw [rn_succ lk_many_in_words]
  match ws, hz, hl with
  | [], _, _ => simp [b_many_in_words, manyIn, optI]
  | [a], _, _ => simp [b_many_in_words, manyIn, optI]
  | [a, b], hz, _ =>
    have ha := hz a (by simp)
    have hb := hz b (by simp)
    simp [b_many_in_words, ha.ok, okPoints, hb.ok, Nat.le_trans hb.len hN]
    unfold manyIn
    by_cases h1 : a = Str.ofString "points"
    · by_cases h2 : dig b = true
      · simp [h1, h2, dig_int h2, show b.length ≤ 640 from Nat.le_trans (dig_len h2) (by decide)]
        by_cases h3 : 1 ≤ val b
        · by_cases h4 : val b ≤ 7 <;> simp [h3, h4, optI]
        · simp [h3, optI]
      · simp [h1, h2, optI]
    · simp [h1, optI]
  | a :: b :: c :: r, _, _ =>
    simp [b_many_in_words, manyIn, optI, show ¬ ((r.length : Int) + 1 + 1 + 1 = 2) by omega]
/-! ### sorted lots -/
def lle (a b : List Int) : Bool := PySem.W.dataLe false toP (.lst (a.map .int)) (.lst (b.map .int))
def srt (ls : List (List Int)) : List (List Int) := ls.mergeSort lle
theorem alike_ints : ∀ a b : List Int, W.alikeAll ((a.map D.int).map toP) ((b.map D.int).map toP) = true
  | [], b => by simp [W.alikeAll]
  | _ :: _, [] => by simp [W.alikeAll]
  | x :: a, y :: b => by
    simp only [List.map_cons, W.alikeAll, toP_int, W.alike, alike_ints a b]
    rfl
theorem srt_length (ls : List (List Int)) : (srt ls).length = ls.length := List.length_mergeSort _
theorem sort_LL {st : Store} {d : D} {ls : List (List Int)} (h : snap st d = some (.lst (ls.map fun l => .lst (l.map .int)))) (hl : ls.length ≤ line) : sortD st d = some (.lst ((srt ls).map fun l => .lst (l.map .int))) := by
  unfold sortD
  rw [h]
  have h1 : alikeAll (toPs (ls.map fun l => D.lst (l.map .int))) = true := by
    unfold alikeAll
    rw [toPs_map, List.map_map, List.all_eq_true]
    intro x hx
    obtain ⟨a, _, rfl⟩ := List.mem_map.mp hx
    rw [List.all_eq_true]
    intro y hy
    obtain ⟨b, _, rfl⟩ := List.mem_map.mp hy
    show W.alike (toP (.lst (a.map .int))) (toP (.lst (b.map .int))) = true
    rw [toP_lst, toP_lst]
    simp only [W.alike]
    exact alike_ints a b
  have h2 : sortB (toPs (ls.map fun l => D.lst (l.map .int))) = true := by
    unfold sortB
    rw [toPs_map, List.map_map, Bool.or_eq_true]
    right
    rw [List.all_eq_true]
    intro x hx
    obtain ⟨a, _, rfl⟩ := List.mem_map.mp hx
    show (match toP (.lst (a.map .int)) with | .none => false | .tuple _ => false | _ => true) = true
    rw [toP_lst]
  have h3 : deepOk (toPs (ls.map fun l => D.lst (l.map .int))) = true := by
    unfold deepOk
    rw [toPs_map, List.map_map, List.all_eq_true]
    intro x hx
    obtain ⟨a, _, rfl⟩ := List.mem_map.mp hx
    rw [decide_eq_true_eq]
    exact Nat.le_trans (Enc.depth a) (by decide)
  show (if _ then _ else _) = _
  rw [h1, h2, h3, if_pos (by simpa using hl)]
  congr 2
  unfold srt
  rw [List.map_mergeSort (s := PySem.W.dataLe false toP)]
  exact fun a _ b _ => rfl
/-! ### complexes -/
def cstep (ls : List (List Int)) (acc : List (List Int)) (lot : List Int) : List (List Int) := if lot ≠ [] ∧ lot ∉ acc ∧ anyB (ls.map fun o => !decide (lot = o) && wit lot o) = false then acc ++ [lot] else acc
def cfold (ls : List (List Int)) : List (List Int) := ls.foldl (cstep ls) []
def complexD (many : Int) (ls : List (List Int)) : D := .tup [.str (Str.ofString "complex"), .int many, .lst ((srt (cfold ls)).map fun l => .lst (l.map .int))]
theorem pu_M {l : List (List Int)} : pureDs (l.map fun l => D.lst (l.map .int)) = true := pu_map fun x => by rw [pu_lst]; exact pu_map fun _ => pu_int
theorem fr_M {l : List (List Int)} : freeDs (l.map fun l => D.lst (l.map .int)) = true := fr_map fun x => by rw [fr_lst]; exact fr_map fun _ => fr_int
def invC (many : Int) (ls : List (List Int)) (i : Nat) (s : List (List Int)) (ρ : Sl) (st : Store) : Prop := (∃ o3, ρ = [some (.int many), some (.lst (ls.map fun l => .lst (l.map .int))), some (.cel 0), o3, none]) ∧ st = [.lst (s.map fun l => .lst (l.map .int))] ∧ s.length ≤ i
theorem t_complex_of {n : Nat} {many : Int} {ls : List (List Int)} (hl : ls.length ≤ line) (hz : ∀ l ∈ ls, l.length ≤ line) {x : List Int} (hx : x ∈ ls) {i : Nat} {s : List (List Int)} {ρ : Sl} {st : Store} (hi : i < ls.length) (h : invC many ls i s ρ st) :
    (forT (cx (n + 1)) [3] false l_complex_of_0 (.lst (x.map .int)) ρ st).on (invC many ls (i + 1) (cstep ls s x)) := by
  obtain ⟨⟨o3, rfl⟩, rfl, hs⟩ := h
  have hin : inD [Cell.lst (List.map (fun l => D.lst (List.map D.int l)) s)] (D.lst (List.map D.int x)) (D.cel 0) = some (decide (x ∈ s)) := in_LC rfl
  have ha := app_cel (st := [Cell.lst (List.map (fun l => D.lst (List.map D.int l)) s)]) (k := 0) (d := D.lst (List.map D.int x)) (ds := List.map (fun l => D.lst (List.map D.int l)) s) rfl (by rw [List.length_map]; omega)
  simp [l_complex_of_0, hl, hz x hx, hin, ha]
  by_cases h1 : x = []
  · simp [h1, cstep, invC]
    omega
  · by_cases h2 : ¬x ∈ s ∧ anyB (List.map (fun x_1 => !decide (x = x_1) && wit x x_1) ls) = false
    · simp [h1, h2, cstep, invC]
      omega
    · simp only [h1, h2, cstep, invC]
      simp
      omega
theorem s_complex_of {n : Nat} {many : Int} {ls : List (List Int)} (hl : ls.length ≤ line) (hz : ∀ l ∈ ls, l.length ≤ line) : ∃ st', rn (n + 2) f_complex_of [.int many, .lst (ls.map fun l => .lst (l.map .int))] [] = .ok (complexD many ls) st' := by
  rw [rn_succ lk_complex_of]
  simp [b_complex_of]
  obtain ⟨ρ', st', e, ⟨o3, rfl⟩, rfl, hlen⟩ := for_fold (α := List Int) (enc := fun l => .lst (l.map .int)) (w := { its := ls.map fun l => .lst (l.map .int) }) (f := forT (cx (n + 1)) [3] false l_complex_of_0)
    (invC many ls) (cstep ls) (n := ls.length) (fun _ _ _ _ _ => rfl) ls 0 [] [some (.int many), some (.lst (ls.map fun l => .lst (l.map .int))), some (.cel 0), none, none] [.lst []] (by omega) (fun x hx i s ρ st hi h => t_complex_of hl hz hx hi h) ⟨⟨none, rfl⟩, rfl, Nat.zero_le _⟩
  rw [e]
  have h1 : sortD [.lst ((ls.foldl (cstep ls) []).map fun l => .lst (l.map .int))] (.cel 0) = some (.lst ((srt (ls.foldl (cstep ls) [])).map fun l => .lst (l.map .int))) :=
    sort_LL (snap_cel rfl pu_M) (by omega)
  simp [h1]
  rfl
/-! ### texts read -/
abbrev St2 := Option Int × List (List Int)
def lotTop (s : St2) (many : Int) (ws : List Str) : Option St2 := if ws.headD ⟨#[]⟩ = Str.ofString "top" ∧ s.2.length < 20 then (lotIn many (ws.drop 1)).map fun l => (s.1, s.2 ++ [l]) else none
def stepW (s : St2) (ws : List Str) : Option St2 := if ws = [] then some s else match s.1 with
  | none => (manyIn ws).map fun k => (some k, s.2)
  | some many => lotTop s many ws
def exO {S : Type} (k : Int) : Option S → Except Int S
  | some s => .ok s
  | none => .error k
def stepP (s : St2) (p : Str × Nat) : Except Int St2 := exO (p.2 + 1) (stepW s (wordsOf p.1))
def parse (z : Str) : Except Int St2 := (Txt.split z (Str.ofString "\n")).zipIdx.foldlM stepP (none, [])
def invR (z : Str) (s : St2) (ρ : Sl) (st : Store) : Prop := (∃ o3 o4 o5 o6, ρ = [some (.str z), some (optI s.1), some (.cel 0), o3, o4, o5, o6]) ∧ st = [.lst (s.2.map fun l => .lst (l.map .int))] ∧ s.2.length ≤ 20
@[simp] theorem nonB_optI {o : Option Int} : nonB (optI o) = o.isNone := by cases o <;> rfl
@[simp] theorem nonB_optL {o : Option (List Int)} : nonB (optL o) = o.isNone := by cases o <;> rfl
@[simp] theorem fr_optI {o : Option Int} : freeD (optI o) = true := by cases o <;> simp [optI]
@[simp] theorem fr_optL {o : Option (List Int)} : freeD (optL o) = true := by cases o <;> simp [optL]
theorem t_read_by {n N : Nat} {z : Str} {p : Str × Nat} (hp : Tx N p.1) (hN : N + 4 ≤ line) {s : St2} {ρ : Sl} {st : Store} (h : invR z s ρ st) :
    (forT (cx (n + 3)) [3, 4] true l_read_by_0 (.tup [.int p.2, .str p.1]) ρ st).onX (fun ρ' st' => okE' (stepP s p) fun s' => invR z s' ρ' st') (fun d => erE' (stepP s p) fun e => d = .tup [.non, .lst [], .int e]) := by
  obtain ⟨⟨o3, o4, o5, o6, rfl⟩, rfl, hs⟩ := h
  obtain ⟨m, lots⟩ := s
  obtain ⟨y, k⟩ := p
  have htx := words_tx hp
  have hc := words_count hp
  have hok : ∀ w ∈ wordsOf y, okZ w := fun w hw => (htx w hw).ok
  have hw := s_words_of (n := n + 2) (st := []) hp (by omega)
  unfold stepP stepW
  simp only at hw htx hc hok ⊢
  generalize wordsOf y = ws at *
  have hs : lots.length ≤ 20 := hs
  cases ws with
  | nil => simp [l_read_by_0, hw, eq_Z0 hok, exO, invR, hs]
  | cons w r =>
    have hw2 := s_many_in_words (n := n) (st := []) htx (by omega) (by omega)
    simp only [List.map_cons] at hw hw2
    have e0 : eqD [Cell.lst (List.map (fun l => D.lst (List.map D.int l)) lots)] (.lst (D.str w :: List.map D.str r)) (.lst []) = some false := by
      have := eq_Z0 (st := [Cell.lst (List.map (fun l => D.lst (List.map D.int l)) lots)]) hok
      simpa using this
    cases m with
    | none =>
      simp [l_read_by_0, hw, e0, optI, hw2]
      cases manyIn (w :: r) with
      | none => simp [exO, optI]
      | some q => simp [exO, optI, invR, hs, e0]
    | some many =>
      have hw3 := s_lot_in (n := n) (many := many) (st := []) (fun q hq => htx q (List.mem_cons_of_mem _ hq)) (N := N) (by omega) (ws := r) (by simp at hc; omega)
      have hl := len_cel (st := [Cell.lst (List.map (fun l => D.lst (List.map D.int l)) lots)]) (k := 0) rfl
      simp [l_read_by_0, hw, e0, optI, hw3, hok w, okTop, hl, lotTop]
      by_cases h1 : w = Str.ofString "top"
      · by_cases h2 : lots.length < 20
        · cases lotIn many r with
          | none => simp [h1, h2, exO]
          | some l =>
            have ha := app_cel (st := [Cell.lst (List.map (fun l => D.lst (List.map D.int l)) lots)]) (k := 0) (d := D.lst (List.map D.int l)) (ds := List.map (fun l => D.lst (List.map D.int l)) lots) rfl (by rw [List.length_map]; exact Nat.lt_of_lt_of_le h2 (by decide))
            simp [h1, h2, exO, show (lots.length : Int) < 20 by omega, optL, ha, invR, optI]
            omega
        · simp [h1, h2, exO, show ¬ (lots.length : Int) < 20 by omega]
      · simp [h1, exO]
/-- what read_by tells -/
def readD : Except Int St2 → D
  | .error e => .tup [.non, .lst [], .int e]
  | .ok (none, ls) => .tup [.non, .lst (ls.map fun l => .lst (l.map .int)), .int 0]
  | .ok (some m, ls) => .tup [.int m, .lst (ls.map fun l => .lst (l.map .int)), .non]
theorem lines_tx {N : Nat} {z : Str} (h : Tx N z) : ∀ p ∈ (Txt.split z (Str.ofString "\n")).zipIdx, Tx N p.1 := by
  intro p hp
  obtain ⟨y, k⟩ := p
  have h2 := (List.mem_zipIdx' hp).2
  exact split_tx h y (h2 ▸ List.getElem_mem _)
theorem s_read_by {n N : Nat} {z : Str} (hz : Tx N z) (hN : N + 4 ≤ line) : ∃ st', rn (n + 4) f_read_by [.str z] [] = .ok (readD (parse z)) st' := by
  rw [rn_succ lk_read_by]
  have h1 := hz.len
  rcases for_out (α := Str × Nat) (enc := fun p => .tup [.int p.2, .str p.1]) (w := { its := (Txt.split z (Str.ofString "\n")).zipIdx.map fun p => .tup [.int p.2, .str p.1] }) (f := forT (cx (n + 3)) [3, 4] true l_read_by_0)
    (invR z) (fun e => .tup [.non, .lst [], .int e]) stepP (fun _ _ _ _ => rfl) (Txt.split z (Str.ofString "\n")).zipIdx (none, []) [some (.str z), some .non, some (.cel 0), none, none, none, none] [.lst []] (fun p hp s ρ st h => t_read_by (lines_tx hz p hp) hN h) ⟨⟨none, none, none, none, rfl⟩, rfl, by decide⟩
    with ⟨⟨m, ls⟩, ρ', st', e, e2, ⟨o3, o4, o5, o6, rfl⟩, rfl, _⟩ | ⟨e', st', e, e2⟩
  · simp [b_read_by, split_str, show z.length + 2 ≤ line by omega, pairs_map, e2]
    unfold parse
    rw [e]
    cases m <;> simp [optI, readD]
  · simp [b_read_by, split_str, show z.length + 2 ≤ line by omega, pairs_map, e2]
    unfold parse
    rw [e]
    simp [readD]
theorem fr_readD {o : Except Int St2} : freeD (readD o) = true := by
  rcases o with e | ⟨m, ls⟩
  · simp [readD]
  · cases m <;> simp [readD, fr_M]
@[simp] theorem fr_complexD {m : Int} {ls : List (List Int)} : freeD (complexD m ls) = true := by simp [complexD, fr_M]
theorem parse_lots {N : Nat} {z : Str} (hz : Tx N z) {m : Option Int} {ls : List (List Int)} (h : parse z = .ok (m, ls)) : ls.length ≤ 20 ∧ ∀ l ∈ ls, l.length ≤ N + 2 := by
  refine foldM_inv (fun (s : St2) => s.2.length ≤ 20 ∧ ∀ l ∈ s.2, l.length ≤ N + 2) _ (none, []) (m, ls) ?_ ⟨by decide, by simp⟩ h
  rintro ⟨y, k⟩ hp ⟨m, lots⟩ ⟨m', lots'⟩ ⟨h1, h2⟩ e
  have hy := lines_tx hz _ hp
  have hc := words_count hy
  unfold stepP stepW at e
  simp only at e hc h1 h2
  generalize wordsOf y = ws at *
  by_cases h0 : ws = []
  · simp [h0, exO] at e
    obtain ⟨rfl, rfl⟩ := e
    exact ⟨h1, h2⟩
  · cases m with
    | none =>
      simp [h0] at e
      cases hm : manyIn ws with
      | none => rw [hm] at e; cases e
      | some q =>
        rw [hm] at e
        cases e
        exact ⟨h1, h2⟩
    | some many =>
      simp [h0, lotTop] at e
      split at e
      · rename_i h3
        cases hm : lotIn many ws.tail with
        | none => rw [hm] at e; cases e
        | some q =>
          rw [hm] at e
          cases e
          refine ⟨by simp; omega, fun l hl => ?_⟩
          rcases List.mem_append.mp hl with hl | hl
          · exact h2 l hl
          · rw [List.mem_singleton.mp hl]
            unfold lotIn at hm
            split at hm
            · cases hm
              simp
              omega
            · cases hm
      · cases e
/-- refused, or the complex -/
def complexR (z : Str) (st : Store) : R D := match parse z with
  | .ok (some m, ls) => .ok (complexD m ls) st
  | _ => .exc x_InvalidText (.str z) st
def wrongD (z : Str) : D := match parse z with
  | .ok (some m, ls) => .non
  | .ok (none, ls) => .int 0
  | .error e => .int e
theorem s_wrong_line {n N : Nat} {z : Str} {st : Store} (hz : Tx N z) (hN : N + 4 ≤ line) : rn (n + 5) f_wrong_line [.str z] st = .ok (wrongD z) st := by
  rw [rn_succ lk_wrong_line]
  obtain ⟨st', e⟩ := s_read_by (n := n) hz hN
  simp [b_wrong_line, e, fr_readD]
  unfold wrongD
  rcases parse z with e | ⟨m, ls⟩
  · simp [readD]
  · cases m <;> simp [readD]
theorem s_read_complex {n N : Nat} {z : Str} {st : Store} (hz : Tx N z) (hN : N + 4 ≤ line) : rn (n + 5) f_read_complex [.str z] st = complexR z st := by
  rw [rn_succ lk_read_complex]
  obtain ⟨st', e⟩ := s_read_by (n := n) hz hN
  unfold complexR
  simp [b_read_complex, e, fr_readD]
  rcases hp : parse z with e | ⟨m, ls⟩
  · simp [readD]
  · have h0 := parse_lots hz hp
    have h1 : ls.length ≤ line := Nat.le_trans h0.1 (by decide)
    have h2 : ∀ l ∈ ls, l.length ≤ line := fun l hl => Nat.le_trans (h0.2 l hl) (by omega)
    cases m with
    | none => simp [readD]
    | some q =>
      obtain ⟨st2, e2⟩ := s_complex_of (n := n + 2) (many := q) h1 h2
      simp [readD, fr_M, e2]
/-! ### the law's own reading -/
@[simp] theorem s_law_digits {n : Nat} {z : Str} {st : Store} (hz : okZ z) (hl : z.length ≤ line) : rn (n + 1) f__law_digits [.str z] st = .ok (.bl (dig z)) st := by
  rw [rn_succ lk__law_digits]
  have hn : z.cps.size ≤ line := hl
  by_cases h0 : 0 < z.length
  · simp [b__law_digits, len_str hl, h0, hz]
    by_cases h9 : z.length ≤ 9
    · simp [show (z.length : Int) < 10 by omega]
      rw [lcR_if (p := fun c => !(decide (48 ≤ c) && decide (c ≤ 57))) (F := fun c => .str ⟨#[c]⟩)]
      · rw [R.bind_ok, eq_nil fun c hc => str_nice (okC hz (List.mem_filter.mp hc).1)]
        have e : (⟨#[z.cps.toList.head?.getD 0]⟩ : Str) = Str.ofString "0" ↔ z.cps.toList.head? = some 48 := by
          rw [show Str.ofString "0" = zero from rfl, one_zero]
          have : 0 < z.cps.toList.length := by rw [Array.length_toList]; exact h0
          cases e : z.cps.toList with
          | nil => rw [e] at this; simp at this
          | cons a r => simp
        have ef : decide (List.filter (fun c => !(decide (48 ≤ c) && decide (c ≤ 57))) z.cps.toList = []) = figs z := by
          unfold figs
          rw [allB_map, Bool.eq_iff_iff]
          generalize z.cps.toList = cs
          simp
        rw [ef]
        simp [hz, ok0, item0 h0 hl, head_ok hz, e, dig, h0, h9, zero]
        exact congrArg (fun b => figs z && (decide (z = Str.ofString "0") || !b)) (decide_eq_decide.mpr Iff.rfl)
      · simp [hn]
      · intro c hc
        simp [in_figs]
    · simp [show ¬ (z.length : Int) < 10 by omega, dig, h9]
  · have h0 : z.length = 0 := by omega
    simp [b__law_digits, hn, len_str hl, h0, in_figs, dig]
@[simp] theorem s_law_is_number {n : Nat} {i : Int} {st : Store} : rn (n + 1) f__law_is_number [.int i] st = .ok (.bl true) st := by
  rw [rn_succ lk__law_is_number]
  simp [b__law_is_number]
@[simp] theorem s_law_is_lot {n : Nat} {many : Int} {l : List Int} {st : Store} (hl : l.length ≤ line) : rn (n + 2) f__law_is_lot [.lst (l.map .int), .int many] st = .ok (.bl (lotB many l)) st := by
  rw [rn_succ lk__law_is_lot]
  simp [b__law_is_lot]
  rw [lcR_if (p := fun i => !(decide (0 ≤ i) && decide (i < many))) (F := .int) hl]
  · have e1 : decide (List.filter (fun i => !(decide (0 ≤ i) && decide (i < many))) l = []) = inM many l := by
      unfold inM
      rw [allB_map, Bool.eq_iff_iff]
      simp
    have e2 : (∃ x, x ∈ l ∧ (0 ≤ x → many ≤ x)) ↔ inM many l = false := by
      rw [← e1]
      simp
    simp [hl, e2]
    rw [lcR_if (p := fun (k : Nat) => !decide (l[k]?.getD 0 < l[k + 1]?.getD 0)) (F := fun (k : Nat) => .int (1 + (k : Int)))]
    · have e3 : decide (List.filter (fun (k : Nat) => !decide (l[k]?.getD 0 < l[k + 1]?.getD 0)) (List.range (l.length - 1)) = []) = asc l := by
        unfold asc
        rw [allB_map, Bool.eq_iff_iff]
        simp only [decide_eq_true_eq, List.filter_eq_nil_iff, List.all_eq_true, Bool.not_eq_true']
        refine forall_congr' fun a => imp_congr_right fun _ => ?_
        by_cases h : l[a]?.getD 0 < l[a + 1]?.getD 0 <;> simp [h]
      rw [R.bind_ok, eq_nil fun c hc => int_nice, e3]
      unfold lotB
      cases inM many l <;> simp
    · simp; omega
    · intro k hk
      have hk := List.mem_range.mp hk
      simp [List.getElem?_eq_getElem (show k < l.length by omega), List.getElem?_eq_getElem (show k + 1 < l.length by omega)]
  · intro i hi
    simp
@[simp] theorem s_law_within {n : Nat} {a b : List Int} {st : Store} (hl : a.length ≤ line) : rn (n + 1) f__law_within [.lst (a.map .int), .lst (b.map .int)] st = .ok (.bl (wit a b)) st := by
  rw [rn_succ lk__law_within]
  simp [b__law_within, hl, wit]
  rw [allB_map, Bool.eq_iff_iff]
  simp
/-! ### its complexes -/
/-- a list handed on, by itself or in a cell -/
structure Hand (ls : List (List Int)) (d : D) (pre : Store) where
  w : Walk
  its : w.its = ls.map fun l => .lst (l.map .int)
  lis : ∀ suf, lisW d (pre ++ suf) = .ok w (pre ++ suf)
  stl : ∀ suf, still w (pre ++ suf) = true
def handL (ls : List (List Int)) : Hand ls (.lst (ls.map fun l => .lst (l.map .int))) [] := ⟨{ its := ls.map fun l => .lst (l.map .int) }, rfl, fun _ => rfl, fun _ => rfl⟩
theorem sameL_self (ds : List D) : sameL ds ds = true := sameL_refl ds
def handC (ls : List (List Int)) : Hand ls (.cel 0) [.lst (ls.map fun l => .lst (l.map .int))] := ⟨{ its := ls.map fun l => .lst (l.map .int), cell := some 0 }, rfl, fun _ => rfl, fun suf => by
  show sameL _ _ = true
  exact sameL_refl _⟩
def lawC (many : Int) (ls : List (List Int)) (d : D) (pre : Store) (i : Nat) (s : List (List Int)) (ρ : Sl) (st : Store) : Prop := (∃ o3, ρ = [some (.int many), some d, some (.cel pre.length), o3, none]) ∧ st = pre ++ [.lst (s.map fun l => .lst (l.map .int))] ∧ s.length ≤ i
theorem t_law_complex {n : Nat} {many : Int} {ls : List (List Int)} {d : D} {pre : Store} (H : Hand ls d pre) (hl : ls.length ≤ line) (hz : ∀ l ∈ ls, l.length ≤ line) {x : List Int} (hx : x ∈ ls) {i : Nat} {s : List (List Int)} {ρ : Sl} {st : Store} (hi : i < ls.length) (h : lawC many ls d pre i s ρ st) :
    (forT (cx (n + 1)) [3] false l__law_complex_0 (.lst (x.map .int)) ρ st).on (lawC many ls d pre (i + 1) (cstep ls s x)) := by
  obtain ⟨⟨o3, rfl⟩, rfl, hs⟩ := h
  have hg : (pre ++ [Cell.lst (List.map (fun l => D.lst (List.map D.int l)) s)])[pre.length]? = some (Cell.lst (List.map (fun l => D.lst (List.map D.int l)) s)) := by simp
  have hin : inD (pre ++ [Cell.lst (List.map (fun l => D.lst (List.map D.int l)) s)]) (D.lst (List.map D.int x)) (D.cel pre.length) = some (decide (x ∈ s)) := in_LC hg
  have ha := app_cel (d := D.lst (List.map D.int x)) hg (by rw [List.length_map]; omega)
  have hlis := H.lis [Cell.lst (List.map (fun l => D.lst (List.map D.int l)) s)]
  simp [l__law_complex_0, hl, hz x hx, hin, ha, hlis]
  rw [lcW_if (α := List Int) H.its (H.stl _) (p := fun o => !decide (o = x) && wit x o) (F := fun o => .lst (o.map .int)) hl]
  · have e1 : decide (List.filter (fun o => !decide (o = x) && wit x o) ls = []) = !anyB (ls.map fun o => !decide (x = o) && wit x o) := by
      rw [anyB_map, Bool.eq_iff_iff]
      simp only [decide_eq_true_eq, List.filter_eq_nil_iff, Bool.not_eq_true', List.any_eq_false]
      refine forall_congr' fun a => imp_congr_right fun _ => ?_
      by_cases h : a = x
      · simp [h]
      · simp [h, show ¬ x = a from fun e => h e.symm]
    rw [R.bind_ok, eq_nil fun c hc => lot_nice, e1]
    simp [hg, ha]
    by_cases h1 : x = []
    · simp [h1, cstep, lawC]
      omega
    · by_cases h2 : x ∈ s
      · simp [h1, h2, cstep, lawC]
        omega
      · cases h3 : anyB (ls.map fun o => !decide (x = o) && wit x o)
        · simp [h1, h2, h3, cstep, lawC]
          omega
        · simp [h1, h2, h3, cstep, lawC]
          omega
  · intro o ho
    simp [hz x hx]
theorem s_law_complex {n : Nat} {many : Int} {ls : List (List Int)} {d : D} {pre : Store} (H : Hand ls d pre) (hl : ls.length ≤ line) (hz : ∀ l ∈ ls, l.length ≤ line) : ∃ st', rn (n + 2) f__law_complex [.int many, d] pre = .ok (complexD many ls) st' := by
  rw [rn_succ lk__law_complex]
  have hlis := H.lis [.lst []]
  simp [b__law_complex, hlis]
  obtain ⟨ρ', st', e, ⟨o3, rfl⟩, rfl, hlen⟩ := for_fold (α := List Int) (enc := fun l => .lst (l.map .int)) (w := H.w) (f := forT (cx (n + 1)) [3] false l__law_complex_0)
    (lawC many ls d pre) (cstep ls) (n := ls.length) (fun i s ρ st h => h.2.1 ▸ H.stl _) ls 0 [] [some (.int many), some d, some (.cel pre.length), none, none] (pre ++ [.lst []]) (by omega) (fun x hx i s ρ st hi h => t_law_complex H hl hz hx hi h) ⟨⟨none, rfl⟩, rfl, Nat.zero_le _⟩
  rw [H.its, e]
  have h1 : sortD (pre ++ [.lst ((ls.foldl (cstep ls) []).map fun l => .lst (l.map .int))]) (.cel pre.length) = some (.lst ((srt (ls.foldl (cstep ls) [])).map fun l => .lst (l.map .int))) :=
    sort_LL (snap_cel (by simp) pu_M) (by omega)
  simp [h1]
  rfl
/-- what the law's reading tells -/
def lawD : Except Int St2 → D
  | .error e => .tup [.non, .int e]
  | .ok (none, ls) => .tup [.non, .int 0]
  | .ok (some m, ls) => .tup [complexD m ls, .non]
theorem step_bad {s : St2} {w : Str} {r : List Str} (h : allB (r.map dig) = false ∨ r = []) : stepW s (w :: r) = none := by
  obtain ⟨m, lots⟩ := s
  unfold stepW
  cases m with
  | none =>
    match r, h with
    | [], _ => simp [manyIn]
    | [b], h =>
      have h : dig b = false := by simpa [allB] using h
      simp [manyIn, h]
    | b :: c :: q, _ => simp [manyIn]
  | some many =>
    rcases h with h | h <;> simp [lotTop, lotIn, h]
theorem step_some {many : Int} {lots : List (List Int)} {w : Str} {r : List Str} (h : allB (r.map dig) = true) (h0 : r ≠ []) : stepW (some many, lots) (w :: r) = if w = Str.ofString "top" ∧ lots.length < 20 ∧ lotB many (r.map val) = true then some (some many, lots ++ [r.map val]) else none := by
  unfold stepW
  simp only [List.cons_ne_nil, if_false, lotTop, List.headD_cons, List.drop_succ_cons, List.drop_zero]
  unfold lotIn
  by_cases h1 : w = Str.ofString "top" <;> by_cases h2 : lots.length < 20 <;> cases h3 : lotB many (r.map val) <;> simp [h, h0, h1, h2]
theorem step_none {lots : List (List Int)} {w b : Str} {q : List Str} (h : allB ((b :: q).map dig) = true) : stepW (none, lots) (w :: b :: q) = if w = Str.ofString "points" ∧ q = [] ∧ 1 ≤ val b ∧ val b ≤ 7 then some (some (val b), lots) else none := by
  unfold stepW
  simp only [List.cons_ne_nil, if_false]
  cases q with
  | nil =>
    have h : dig b = true := by simpa [allB] using h
    simp only [manyIn, h, true_and]
    by_cases h1 : w = Str.ofString "points" ∧ 1 ≤ val b ∧ val b ≤ 7 <;> simp [h1]
  | cons c q => simp [manyIn]
def invQ (z : Str) (s : St2) (ρ : Sl) (st : Store) : Prop := (∃ o3 o4 o6 o7, ρ = [some (.str z), some (optI s.1), some (.cel 0), o3, o4, none, o6, o7]) ∧ st = [.lst (s.2.map fun l => .lst (l.map .int))] ∧ s.2.length ≤ 20
theorem t_law_read {n N : Nat} {z : Str} {p : Str × Nat} (hp : Tx N p.1) (hN : N + 4 ≤ line) {s : St2} {ρ : Sl} {st : Store} (h : invQ z s ρ st) :
    (forT (cx (n + 3)) [3, 4] true l__law_read_0 (.tup [.int p.2, .str p.1]) ρ st).onX (fun ρ' st' => okE' (stepP s p) fun s' => invQ z s' ρ' st') (fun d => erE' (stepP s p) fun e => d = .tup [.non, .int e]) := by
  obtain ⟨⟨o3, o4, o6, o7, rfl⟩, rfl, hs⟩ := h
  obtain ⟨m, lots⟩ := s
  obtain ⟨y, k⟩ := p
  have htx := words_tx hp
  have hc := words_count hp
  have hok : ∀ w ∈ wordsOf y, okZ w := fun w hw => (htx w hw).ok
  have hs : lots.length ≤ 20 := hs
  obtain ⟨a, r, e⟩ := split_pos y (Str.ofString "#")
  have ha := split_tx hp (b := Str.ofString "#") a (by rw [e]; exact List.mem_cons_self)
  have h1 : y.length ≤ N := hp.len
  have h2 := ha.len
  have h3 := split_count a (Str.ofString " ")
  unfold stepP stepW
  simp [l__law_read_0, split_str, show y.length + 2 ≤ line by omega, show a.length + 2 ≤ line by omega, e]
  rw [lcR_if (p := fun w => decide (w ≠ Str.ofString "")) (F := fun w => .str w)]
  · rw [show List.filter (fun w => decide (w ≠ Str.ofString "")) (Txt.split a (Str.ofString " ")) = wordsOf y by simp [wordsOf, e]]
    simp only at htx hc hok ⊢
    generalize wordsOf y = ws at *
    cases ws with
    | nil => simp [exO, invQ, hs]
    | cons w r =>
      have e0 : eqD [Cell.lst (List.map (fun l => D.lst (List.map D.int l)) lots)] (.lst (D.str w :: List.map D.str r)) (.lst []) = some false := by
        have := eq_Z0 (st := [Cell.lst (List.map (fun l => D.lst (List.map D.int l)) lots)]) hok
        simpa using this
      have hr : ∀ q ∈ r, okZ q := fun q hq => hok q (List.mem_cons_of_mem _ hq)
      have hrl : r.length ≤ line := by simp at hc; omega
      simp [e0]
      rw [lcR_if (p := fun w => !dig w) (F := fun w => .str w) hrl]
      · rw [R.bind_ok, eq_nil fun c hc => str_nice (hr c (List.mem_filter.mp hc).1)]
        have ef : decide (List.filter (fun w => !dig w) r = []) = allB (r.map dig) := by
          rw [allB_map, Bool.eq_iff_iff]
          simp
        rw [ef]
        by_cases hd : allB (r.map dig) = true
        · by_cases h2 : r = []
          · have hx := step_bad (s := (m, lots)) (w := w) (.inr h2)
            unfold stepW at hx
            simp at hx
            simp [h2, hx, exO] at hx ⊢
            simp [hx]
          · have hlen : ¬ ((r.length : Int) + 1 < 2) := by
              have := List.length_pos_iff.mpr h2
              omega
            simp [hd, hlen]
            rw [lcR_ok (F := fun w => .int (val w)) hrl]
            · cases r with
              | nil => exact absurd rfl h2
              | cons b q =>
                have hl := len_cel (st := [Cell.lst (List.map (fun l => D.lst (List.map D.int l)) lots)]) (k := 0) rfl
                cases m with
                | none =>
                  have hx := step_none (lots := lots) (w := w) hd
                  unfold stepW at hx
                  simp at hx
                  simp [hx, optI, hok w, okPoints]
                  by_cases g1 : w = Str.ofString "points"
                  · by_cases g2 : q = []
                    · by_cases g3 : 1 ≤ val b
                      · by_cases g4 : val b ≤ 7
                        · simp [g1, g2, g3, g4, show ¬ val b < 1 by omega, show ¬ 7 < val b by omega, exO, invQ, hs, optI]
                        · simp [g1, g2, g3, g4, show ¬ val b < 1 by omega, show 7 < val b by omega, exO]
                      · simp [g1, g2, g3, show val b < 1 by omega, exO]
                    · have : ¬ ((q.length : Int) + 1 = 1) := by
                        have := List.length_pos_iff.mpr g2
                        omega
                      simp [g1, g2, this, exO]
                  · simp [g1, exO]
                | some many =>
                  have hx := step_some (many := many) (lots := lots) (w := w) hd h2
                  have em : (b :: q).map (fun w => D.int (val w)) = ((b :: q).map val).map D.int := by rw [List.map_map]; rfl
                  have hvl : ((b :: q).map val).length ≤ line := by simpa using hrl
                  unfold stepW at hx
                  rw [em]
                  simp only [List.cons_ne_nil, if_false, List.map_cons] at hx
                  simp only [List.map_cons (f := val)] at hvl ⊢
                  simp only [hx]
                  generalize val b :: List.map val q = vs at *
                  simp [optI, hok w, okTop, hl, hvl]
                  by_cases g1 : w = Str.ofString "top"
                  · by_cases g2 : lots.length < 20
                    · cases g3 : lotB many vs
                      · simp [g1, g2, g3, exO]
                      · have ha := app_cel (st := [Cell.lst (List.map (fun l => D.lst (List.map D.int l)) lots)]) (k := 0) (d := D.lst (List.map D.int vs)) (ds := List.map (fun l => D.lst (List.map D.int l)) lots) rfl (by rw [List.length_map]; exact Nat.lt_of_lt_of_le g2 (by decide))
                        simp [g1, g2, g3, exO, show ¬ (lots.length : Int) = 20 by omega, ha, invQ, optI]
                        omega
                    · simp [g1, g2, exO, show (lots.length : Int) = 20 by omega]
                  · simp [g1, exO]
            · intro q hq
              rw [allB_map, List.all_eq_true] at hd
              have h1 := dig_int (hd q hq)
              have h2 := dig_len (hd q hq)
              simp [h1, show q.length ≤ 640 by omega]
        · have hd : allB (r.map dig) = false := by simpa using hd
          have hx := step_bad (s := (m, lots)) (w := w) (.inl hd)
          unfold stepW at hx
          simp at hx
          simp [hd, hx, exO]
      · intro q hq
        simp [hr q hq, show q.length ≤ line from Nat.le_trans (htx q (List.mem_cons_of_mem _ hq)).len (by omega)]
  · omega
  · intro w hw
    have := (split_tx ha w hw).ok
    simp [this, okE]
theorem s_law_read {n N : Nat} {z : Str} (hz : Tx N z) (hN : N + 4 ≤ line) : ∃ st', rn (n + 4) f__law_read [.str z] [] = .ok (lawD (parse z)) st' := by
  rw [rn_succ lk__law_read]
  have h1 := hz.len
  rcases for_out (α := Str × Nat) (enc := fun p => .tup [.int p.2, .str p.1]) (w := { its := (Txt.split z (Str.ofString "\n")).zipIdx.map fun p => .tup [.int p.2, .str p.1] }) (f := forT (cx (n + 3)) [3, 4] true l__law_read_0)
    (invQ z) (fun e => .tup [.non, .int e]) stepP (fun _ _ _ _ => rfl) (Txt.split z (Str.ofString "\n")).zipIdx (none, []) [some (.str z), some .non, some (.cel 0), none, none, none, none, none] [.lst []] (fun p hp s ρ st h => t_law_read (lines_tx hz p hp) hN h) ⟨⟨none, none, none, none, rfl⟩, rfl, by decide⟩
    with ⟨⟨m, ls⟩, ρ', st', e, e2, ⟨o3, o4, o6, o7, rfl⟩, rfl, _⟩ | ⟨e', st', e, e2⟩
  · simp [b__law_read, split_str, show z.length + 2 ≤ line by omega, pairs_map, e2]
    have hp : parse z = .ok (m, ls) := e
    have h0 := parse_lots hz hp
    rw [hp]
    cases m with
    | none => simp [optI, lawD]
    | some q =>
      obtain ⟨st', e3⟩ := s_law_complex (n := n + 1) (many := q) (handC ls) (Nat.le_trans h0.1 (by decide)) (fun l hl => Nat.le_trans (h0.2 l hl) (by omega))
      simp [optI, lawD, e3]
  · simp [b__law_read, split_str, show z.length + 2 ≤ line by omega, pairs_map, e2]
    unfold parse
    rw [e]
    simp [lawD]
/-! ### the same -/
theorem s_law_same {n k : Nat} {d : D} {st : Store} (h : Nice k d) : rn (n + k + 1) f__law_same [d, d] st = .ok (.bl true) st := by
  induction h generalizing n st with
  | non =>
    rw [rn_succ lk__law_same]
    simp [b__law_same]
  | int =>
    rw [rn_succ lk__law_same]
    simp [b__law_same]
  | str h => 
    rw [rn_succ lk__law_same]
    simp [b__law_same, h]
  | @lst k ds hl h ih =>
    rw [rn_succ lk__law_same]
    simp [b__law_same]
    rw [lcR_ok (F := fun _ => .bl true)]
    · simp [allB_true]
    · simpa using hl
    · intro x hx
      rw [zip_self] at hx
      obtain ⟨d, hd, rfl⟩ := List.mem_map.mp hx
      have h1 := ih d hd (n := n) (st := [])
      rw [show n + k + 1 = n + (k + 1) by omega] at h1
      simp [(h d hd).fr, h1]
  | @tup k ds hl h ih =>
    rw [rn_succ lk__law_same]
    simp [b__law_same]
    rw [lcR_ok (F := fun _ => .bl true)]
    · simp [allB_true]
    · simpa using hl
    · intro x hx
      rw [zip_self] at hx
      obtain ⟨d, hd, rfl⟩ := List.mem_map.mp hx
      have h1 := ih d hd (n := n) (st := [])
      rw [show n + k + 1 = n + (k + 1) by omega] at h1
      simp [(h d hd).fr, h1]
/-! ### refused -/
theorem s_refused_bad {n f : Nat} {z : Str} {st : Store} (hz : okZ z) (hl : 10 * z.length + 2 ≤ line) (hf : f < NF) (h : rn (n + 1) f [.str z] st = .exc x_InvalidText (.str z) st) : rn (n + 2) f__law_refused [.fn f, .str z] st = .ok (.bl true) st := by
  rw [rn_succ lk__law_refused]
  simp [b__law_refused, hf, h, repr_str hz hl, repr_ok hz]
end L
end MP
end
section
set_option maxRecDepth 100000
set_option maxHeartbeats 4000000
namespace MP
namespace L
open PySem PySem.Builtin.Str
/-! ### the purse -/
def pu (bigs : List Int) (i : Nat) (q : Int) (c s : Nat) : Cell := .lst [.lst (bigs.map .int), .int i, .int q, .int c, .int s]
def PuOk (b : Nat) (p : Cell) : Prop := ∃ bigs i q c s, p = pu bigs i q c s ∧ i ≤ bigs.length ∧ bigs.length ≤ 63 ∧ c ≤ b ∧ s < 2147483648
theorem PuOk.mono {a b : Nat} {p : Cell} (h : PuOk a p) (hl : a ≤ b) : PuOk b p := by
  obtain ⟨bigs, i, q, c, s, e, h1, h2, h3, h4⟩ := h
  exact ⟨bigs, i, q, c, s, e, h1, h2, Nat.le_trans h3 hl, h4⟩
theorem s_draw {n b : Nat} {many : Int} {p : Cell} {tl : Store} (hp : PuOk b p) (hm : 0 < many) (hm2 : many < 1073741824) (hb : b ≤ 1000000000) : ∃ (v : Int) (p' : Cell), rn (n + 1) f__law_draw [.cel 0, .int many] (p :: tl) = .ok (.int v) (p' :: tl) ∧ 0 ≤ v ∧ v < many ∧ PuOk (b + 1) p' := by
  obtain ⟨bigs, i, q, c, s, rfl, h1, h2, h3, h4⟩ := hp
  rw [rn_succ lk__law_draw]
  have g : ∀ (a b c d e : D) (j : Nat) (tl : Store), getD (Cell.lst [a, b, c, d, e] :: tl) (.cel 0) (.int (j : Int)) = [a, b, c, d, e][j]? := fun a b c d e j tl => get_cel rfl le5_line
  have g1 := fun a b c d e tl => g a b c d e 1 tl
  have g3 := fun a b c d e tl => g a b c d e 3 tl
  simp at g1 g3
  have i1 : L2.ixN 5 1 = some 1 := by decide
  have i2 : L2.ixN 5 2 = some 2 := by decide
  have i3 : L2.ixN 5 3 = some 3 := by decide
  have hcc : -(2 ^ 64 : Int) < (c : Int) + 1 ∧ (c : Int) + 1 < 2 ^ 64 := by omega
  have hst : ∀ t : Int, -(2 ^ 64 : Int) < t % 2147483629 ∧ t % 2147483629 < 2 ^ 64 := fun t => by omega
  have m1 : binI .mul ((c : Int) + 1) ((c : Int) + 1) = some (.int (((c : Int) + 1) * ((c : Int) + 1))) := bi_mul (.inl hcc)
  have m2 : ∀ t, binI .mul t 48271 = some (.int (t * 48271)) := fun t => bi_mul (.inr (by omega))
  have m3 : ∀ t : Int, binI .mul (t % 2147483629) (t % 2147483629) = some (.int ((t % 2147483629) * (t % 2147483629))) := fun t => bi_mul (.inl (hst t))
  have m4 : ∀ t : Int, 0 ≤ t % many ∧ t % many < many := fun t => ⟨Int.emod_nonneg _ (by omega), Int.emod_lt_of_pos _ hm⟩
  by_cases h : q < many ∧ i < bigs.length
  · by_cases h' : many ≤ bigs[i]
    · simp [b__law_draw, pu, g1, g3, i1, i2, i3, h.1, h.2, hm, hm2, h']
      exact ⟨_, _, ⟨rfl, rfl⟩, (m4 _).1, (m4 _).2, bigs, i + 1, _, c, s, rfl, h.2, h2, by omega, h4⟩
    · simp [b__law_draw, pu, g1, g3, i1, i2, i3, h.1, h.2, hm, hm2, h', m1, m2, m3]
      exact ⟨_, _, ⟨rfl, rfl⟩, (m4 _).1, (m4 _).2, bigs, i + 1, _, c + 1, s, rfl, h.2, h2, by omega, h4⟩
  · by_cases h' : many ≤ q
    · simp [b__law_draw, pu, g1, g3, i1, i2, i3, h, hm, hm2, h']
      exact ⟨_, _, ⟨rfl, rfl⟩, (m4 _).1, (m4 _).2, bigs, i, _, c, s, rfl, h1, h2, by omega, h4⟩
    · have h2' : ¬ i < bigs.length := fun z => h ⟨by omega, z⟩
      simp [b__law_draw, pu, g1, g3, i1, i2, i3, h, hm, hm2, h', h2', m1, m2, m3]
      exact ⟨_, _, ⟨rfl, rfl⟩, (m4 _).1, (m4 _).2, bigs, i, _, c + 1, s, rfl, h1, h2, by omega, h4⟩
theorem s_pick {n b : Nat} {ds : List D} {p : Cell} {tl : Store} (hp : PuOk b p) (h0 : ds ≠ []) (hl : ds.length ≤ 1000000) (hb : b ≤ 1000000000) : ∃ d p', rn (n + 2) f__law_pick [.cel 0, .lst ds] (p :: tl) = .ok d (p' :: tl) ∧ d ∈ ds ∧ PuOk (b + 1) p' := by
  have hpos := List.length_pos_iff.mpr h0
  obtain ⟨v, p', e, v0, v1, hp'⟩ := s_draw (n := n) (many := ds.length) (tl := tl) hp (by omega) (by omega) hb
  obtain ⟨k, rfl⟩ := Int.eq_ofNat_of_zero_le v0
  rw [rn_succ lk__law_pick]
  have hk : k < ds.length := by omega
  refine ⟨ds[k], p', ?_, List.getElem_mem hk, hp'⟩
  simp [b__law_pick, e, hk]
theorem s_lot {n b : Nat} {many : Int} {p : Cell} {tl : Store} (hp : PuOk b p) (hm : 0 ≤ many) (hm2 : many ≤ 7) (hb : b ≤ 900000000) : ∃ (l : List Int) (p' : Cell), rn (n + 2) f__law_lot [.cel 0, .int many] (p :: tl) = .ok (.lst (l.map .int)) (p' :: tl) ∧ (∀ i ∈ l, 0 ≤ i ∧ i < 7) ∧ l.length ≤ 7 ∧ PuOk (b + 7) p' := by
  rw [rn_succ lk__law_lot]
  simp [b__law_lot, show -4611686018427387904 ≤ many by omega, show many < 4611686018427387904 by omega]
  generalize hr : lcR _ _ _ = r
  have key : r.sat (fun d st' => ∃ ys, d = .lst ys ∧ (∃ p', st' = p' :: tl ∧ PuOk (b + (List.range many.toNat).length) p') ∧ (∀ y ∈ ys, ∃ i : Int, y = .int i ∧ (0 ≤ i ∧ i < 7)) ∧ ys.length ≤ (List.range many.toNat).length) := by
    rw [← hr]
    refine lcR_st (fun i st => ∃ p', st = p' :: tl ∧ PuOk (b + i) p') _ (by simp; unfold line; omega) ⟨p, rfl, hp⟩ ?_
    rintro x hx i st hi ⟨p', rfl, hp'⟩
    have hx := List.mem_range.mp hx
    simp at hi
    obtain ⟨v, p2, e, v0, v1, hp2⟩ := s_draw (n := n) (many := 2) (tl := tl) hp' (by omega) (by omega) (by omega)
    simp [e]
    by_cases hv : v = 0
    · simp [hv]
      exact ⟨hp2, by omega⟩
    · simp [hv]
      exact hp2
  obtain ⟨d, st', rfl, ys, rfl, ⟨p', rfl, hp'⟩, h2, h3⟩ := sat_ex key
  obtain ⟨l, rfl, hl⟩ := exists_map ys h2
  simp at h3 hp'
  exact ⟨l, p', by simp, hl, by omega, hp'.mono (by omega)⟩
def invS (b : Nat) (tl : Store) (ds : List D) (i : Nat) (_ : Unit) (ρ : Sl) (st : Store) : Prop := ∃ (p : Cell) (ls fs : List D) (o4 : Option D), ρ = [some (.cel 0), some (.lst ds), some (.cel (tl.length + 1)), some (.cel (tl.length + 1 + 1)), o4] ∧ st = p :: (tl ++ [.lst ls, .lst fs]) ∧ PuOk (b + i) p ∧ ls.length + i = ds.length ∧ fs.length = i ∧ (∀ d ∈ ls, d ∈ ds) ∧ ∀ d ∈ fs, d ∈ ds
theorem t_shuffled {n b : Nat} {ds : List D} {tl : Store} (hl : ds.length ≤ 1000000) (hb : b ≤ 800000000) {x : D} {i : Nat} {s : Unit} {ρ : Sl} {st : Store} (hi : i < ds.length) (h : invS b tl ds i s ρ st) :
    (forT (cx (n + 1)) [4] false l__law_shuffled_0 x ρ st).on (invS b tl ds (i + 1) ()) := by
  obtain ⟨p, ls, fs, o4, rfl, rfl, hp, h1, h2, h3, h4⟩ := h
  obtain ⟨v, p', e, v0, v1, hp'⟩ := s_draw (n := n) (many := ls.length) (tl := tl ++ [.lst ls, .lst fs]) hp (by omega) (by omega) (by omega)
  obtain ⟨j, rfl⟩ := Int.eq_ofNat_of_zero_le v0
  have hj : j < ls.length := by omega
  have e1 := len_cel (two_a (p := p) (tl := tl) (a := .lst ls) (c := .lst fs))
  have e2 := items_cel (two_a (p := p) (tl := tl) (a := .lst ls) (c := .lst fs))
  have e3 := items_cel (two_c (p := p) (tl := tl) (a := .lst ls) (c := .lst fs))
  have e4 := pop_cel (two_a (p := p') (tl := tl) (a := .lst ls) (c := .lst fs)) (show ls.length ≤ line by unfold line; omega) hj
  rw [set_a] at e4
  have e5 := app_cel (d := ls[j]) (two_c (p := p') (tl := tl) (a := .lst (ls.eraseIdx j)) (c := .lst fs)) (by unfold line; omega)
  rw [set_c] at e5
  simp [l__law_shuffled_0, e, e1, e2, e3, e4, e5]
  refine ⟨p', ls.eraseIdx j, fs ++ [ls[j]], _, rfl, rfl, hp', ?_, ?_, fun d hd => h3 d (List.mem_of_mem_eraseIdx hd), fun d hd => ?_⟩
  · rw [List.length_eraseIdx_of_lt hj]; omega
  · simp [h2]
  · rcases List.mem_append.mp hd with hd | hd
    · exact h4 d hd
    · rw [List.mem_singleton.mp hd]; exact h3 _ (List.getElem_mem hj)
theorem s_shuffled {n b : Nat} {ds : List D} {p : Cell} {tl : Store} (hp : PuOk b p) (hl : ds.length ≤ 1000000) (hb : b ≤ 800000000) : ∃ (fs : List D) (p' : Cell) (tl' : Store), rn (n + 2) f__law_shuffled [.cel 0, .lst ds] (p :: tl) = .ok (.lst fs) (p' :: tl') ∧ (∀ d ∈ fs, d ∈ ds) ∧ fs.length = ds.length ∧ PuOk (b + ds.length) p' := by
  rw [rn_succ lk__law_shuffled]
  obtain ⟨ρ', st', e, p', ls, fs, o4, rfl, rfl, hp', h1, h2, h3, h4⟩ := for_fold (α := D) (enc := fun d => d) (w := { its := ds }) (f := forT (cx (n + 1)) [4] false l__law_shuffled_0) (invS b tl ds) (fun _ _ => ()) (n := ds.length) (fun _ _ _ _ _ => rfl) ds 0 ()
    [some (D.cel 0), some (D.lst ds), some (D.cel (List.length tl + 1)), some (D.cel (List.length tl + 1 + 1)), none] (p :: (tl ++ [Cell.lst ds, Cell.lst []])) (by omega) (fun x hx i s ρ st hi h => t_shuffled hl hb hi h) ⟨p, ds, [], none, rfl, rfl, hp, rfl, rfl, fun _ h => h, by simp⟩
  rw [List.map_id'] at e
  have e2 := two_c (p := p') (tl := tl) (a := .lst ls) (c := .lst fs)
  refine ⟨fs, p', tl ++ [.lst ls, .gone], ?_, h4, by omega, hp'.mono (by omega)⟩
  simp [b__law_shuffled, e, e2]
/-! ### bodies -/
/-- a lot of points -/
structure Lot (l : List Int) : Prop where
  pts : ∀ i ∈ l, 0 ≤ i ∧ i < 7
  len : l.length ≤ 7
def bodyD (many : Int) (ls : List (List Int)) : D := .tup [.str (Str.ofString "complex"), .int many, .lst (ls.map fun l => .lst (l.map .int))]
theorem mem_cfold {ls : List (List Int)} : ∀ x ∈ cfold ls, x ∈ ls := by
  have : ∀ (xs acc : List (List Int)), (∀ x ∈ xs, x ∈ ls) → (∀ x ∈ acc, x ∈ ls) → ∀ x ∈ xs.foldl (cstep ls) acc, x ∈ ls := by
    intro xs
    induction xs with
    | nil => exact fun acc _ h => h
    | cons a r ih =>
      intro acc h1 h2
      refine ih _ (fun x hx => h1 x (List.mem_cons_of_mem _ hx)) fun x hx => ?_
      unfold cstep at hx
      split at hx
      · rcases List.mem_append.mp hx with hx | hx
        · exact h2 x hx
        · rw [List.mem_singleton.mp hx]; exact h1 a List.mem_cons_self
      · exact h2 x hx
  exact this ls [] (fun _ h => h) (by simp)
theorem len_cfold {ls : List (List Int)} : (cfold ls).length ≤ ls.length := by
  have : ∀ (xs acc : List (List Int)), (xs.foldl (cstep ls) acc).length ≤ acc.length + xs.length := by
    intro xs
    induction xs with
    | nil => exact fun acc => Nat.le_refl _
    | cons a r ih =>
      intro acc
      have h1 := ih (cstep ls acc a)
      have h2 : (cstep ls acc a).length ≤ acc.length + 1 := by
        unfold cstep
        split
        · simp
        · omega
      rw [List.foldl_cons, List.length_cons]
      omega
  have := this ls []
  rw [List.length_nil, Nat.zero_add] at this
  exact this
theorem s_body {n b : Nat} {many : Int} {p : Cell} {tl : Store} (hp : PuOk b p) (hm : 1 ≤ many) (hm2 : many ≤ 7) (hb : b ≤ 800000000) : ∃ (tops : List (List Int)) (p' : Cell), rn (n + 3) f__law_body [.cel 0, .int many] (p :: tl) = .ok (bodyD many tops) (p' :: tl) ∧ (∀ l ∈ tops, Lot l) ∧ tops.length ≤ 5 ∧ PuOk (b + 100) p' := by
  obtain ⟨v, p1, e1, v0, v1, hp1⟩ := s_draw (n := n + 1) (many := 6) (tl := tl) hp (by omega) (by omega) (by omega)
  rw [rn_succ lk__law_body]
  simp [b__law_body, e1, show -4611686018427387904 ≤ v by omega, show v < 4611686018427387904 by omega]
  generalize hr : lcR _ _ _ = r
  have key : r.sat (fun d st' => ∃ ys, d = .lst ys ∧ (∃ p', st' = p' :: tl ∧ PuOk (b + 1 + 7 * (List.range v.toNat).length) p') ∧ (∀ y ∈ ys, ∃ l : List Int, y = .lst (l.map .int) ∧ Lot l) ∧ ys.length ≤ (List.range v.toNat).length) := by
    rw [← hr]
    refine lcR_st (fun i st => ∃ p', st = p' :: tl ∧ PuOk (b + 1 + 7 * i) p') _ (by simp; unfold line; omega) ⟨p1, rfl, hp1⟩ ?_
    rintro x hx i st hi ⟨p', rfl, hp'⟩
    have hx := List.mem_range.mp hx
    simp at hi
    obtain ⟨l, p2, e, h1, h2, hp2⟩ := s_lot (n := n) (many := many) (tl := tl) hp' (by omega) (by omega) (by omega)
    simp [e]
    exact ⟨hp2.mono (by omega), l, rfl, h1, h2⟩
  obtain ⟨d, st', rfl, ys, rfl, ⟨p', rfl, hp'⟩, h2, h3⟩ := sat_ex key
  obtain ⟨ls, rfl, hl⟩ := exists_map ys h2
  simp at h3 hp'
  have hll : ∀ l ∈ ls, l.length ≤ line := fun l h => Nat.le_trans (hl l h).len (by decide)
  obtain ⟨st2, e2⟩ := s_law_complex (n := n) (many := many) (handL ls) (by unfold line; omega) hll
  refine ⟨srt (cfold ls), p', ?_, fun l h => ?_, ?_, hp'.mono (by omega)⟩
  · simp [fr_M, e2]
    rfl
  · exact hl l (mem_cfold l ((List.mergeSort_perm _ _).mem_iff.mp h))
  · rw [srt_length]
    have := len_cfold (ls := ls)
    omega
/-- rows of words -/
structure Rows (k : Nat) (rows : List (List Str)) : Prop where
  len : rows.length ≤ k
  row : ∀ r ∈ rows, r.length ≤ 10 ∧ ∀ w ∈ r, Tx 10 w
theorem s_rows {n : Nat} {many : Int} {tops : List (List Int)} {st : Store} (hm : 0 ≤ many ∧ many < 10) (h : ∀ l ∈ tops, Lot l) (hl : tops.length ≤ 5) : ∃ rows : List (List Str), rn (n + 1) f__law_rows [bodyD many tops] st = .ok (.lst (rows.map fun r => .lst (r.map .str))) st ∧ Rows 6 rows := by
  refine ⟨[Str.ofString "points", Str.ofString (toString many)] :: tops.map fun l => Str.ofString "top" :: l.map fun i => Str.ofString (toString i), ?_, ?_, ?_⟩
  · rw [rn_succ lk__law_rows]
    simp [b__law_rows, bodyD, (str_fig hm.1 hm.2).1]
    rw [lcR_ok (F := fun l => .lst (.str (Str.ofString "top") :: l.map fun i => .str (Str.ofString i.repr))) (by unfold line; omega)]
    · simp
      rw [bin_LL (by simp; unfold line; omega)]
      simp
    · intro l hl2
      have := h l hl2
      rw [lcR_ok (F := fun i => .str (Str.ofString i.repr)) (Nat.le_trans this.len (by decide))]
      · rw [R.bind_ok, bin_LL (by have := this.len; simp; unfold line; omega)]
        simp
      · intro i hi
        have := this.pts i hi
        simp [(str_fig this.1 (by omega)).1]
  · simp; omega
  · intro r hr
    rcases List.mem_cons.mp hr with rfl | hr
    · refine ⟨by simp, ?_⟩
      intro w hw
      simp at hw
      rcases hw with rfl | rfl
      · exact lit_tx (by decide +kernel)
      · exact (str_fig hm.1 hm.2).2.mono (by decide)
    · obtain ⟨l, hl2, rfl⟩ := List.mem_map.mp hr
      have := h l hl2
      refine ⟨by have := this.len; simp; omega, ?_⟩
      intro w hw
      rcases List.mem_cons.mp hw with rfl | hw
      · exact lit_tx (by decide +kernel)
      · obtain ⟨i, hi, rfl⟩ := List.mem_map.mp hw
        have := this.pts i hi
        exact (str_fig this.1 (by omega)).2.mono (by decide)
theorem s_joined {n : Nat} {rows : List (List Str)} {st : Store} (h : Rows 6 rows) : ∃ z, rn (n + 1) f__law_joined [.lst (rows.map fun r => .lst (r.map .str))] st = .ok (.str z) st ∧ Tx 700 z := by
  have hl := h.len
  have ht : ∀ r ∈ rows, Tx 111 (Txt.join (Str.ofString " ") r ++ Str.ofString "\n") := fun r hr =>
    app_tx (N := 110) (M := 1) (join_fit (M := 10) (S := 1) (C := 10) (lit_tx (by decide +kernel)) (h.row r hr).2 (h.row r hr).1 (by decide)).2 (lit_tx (by decide +kernel))
  have hj := join_fit (M := 111) (S := 0) (C := 6) (N := 700) (sep := Str.ofString "") (zs := rows.map fun r => Txt.join (Str.ofString " ") r ++ Str.ofString "\n") (lit_tx (by decide +kernel)) (fun z hz => by
    obtain ⟨r, hr, rfl⟩ := List.mem_map.mp hz
    exact ht r hr) (by simpa using hl) (by decide)
  refine ⟨Txt.join (Str.ofString "") (rows.map fun r => Txt.join (Str.ofString " ") r ++ Str.ofString "\n"), ?_, hj.2⟩
  rw [rn_succ lk__law_joined]
  simp [b__law_joined]
  rw [lcR_ok (F := fun r => .str (Txt.join (Str.ofString " ") r ++ Str.ofString "\n")) (by unfold line; omega)]
  · simp
    rw [join_strs (ys := rows.map fun r => Txt.join (Str.ofString " ") r ++ Str.ofString "\n") (by simp) (Nat.le_trans hj.1 (by decide))]
    simp
  · intro r hr
    have h1 := join_fit (M := 10) (S := 1) (C := 10) (N := 110) (sep := Str.ofString " ") (lit_tx (by decide +kernel)) (h.row r hr).2 (h.row r hr).1 (by decide)
    rw [join_strs (ys := r) (by have := qstrsD_map (f := fun z => z) (xs := r); simpa using this) (Nat.le_trans h1.1 (by decide))]
    have := h1.2.len
    simp only [metR_some, R.bind_ok]
    rw [bin_SS (by simp; unfold line; omega)]
    simp
/-! ### the law's purse -/
def invP (ns : List Int) (_ : Nat) (_ : Unit) (ρ : Sl) (st : Store) : Prop := ∃ (seed : Int) (o2 : Option D), ρ = [some (.scr ns), some (.int seed), o2] ∧ st = [] ∧ 0 ≤ seed ∧ seed < 2147483648
theorem t_purse {n : Nat} {ns : List Int} {x : Int} {i : Nat} {s : Unit} {ρ : Sl} {st : Store} (h : invP ns i s ρ st) : (forT (cx n) [2] false l__law_purse_0 (.int x) ρ st).on (invP ns (i + 1) ()) := by
  obtain ⟨seed, o2, rfl, rfl, hs, hs2⟩ := h
  have m1 : binI .mul seed 31 = some (.int (seed * 31)) := bi_mul (.inr (by omega))
  simp [l__law_purse_0, m1]
  have h0 : 0 ≤ (seed * 31 + x) % 2147483647 := Int.emod_nonneg _ (by omega)
  have h1 : (seed * 31 + x) % 2147483647 < 2147483647 := Int.emod_lt_of_pos _ (by omega)
  exact ⟨_, _, rfl, rfl, h0, by omega⟩
theorem s_purse {n : Nat} {ns : List Int} : ∃ p, rn (n + 1) f__law_purse [.scr ns] [] = .ok (.cel 0) [p] ∧ PuOk 0 p := by
  rw [rn_succ lk__law_purse]
  obtain ⟨ρ', st', e, seed, o2, rfl, rfl, hs, hs2⟩ := for_fold (α := Int) (enc := D.int) (w := { its := (cutL ns none (some 63)).map D.int }) (f := forT (cx n) [2] false l__law_purse_0) (invP ns) (fun _ _ => ()) (n := (cutL ns none (some 63)).length) (fun _ _ _ _ _ => rfl) (cutL ns none (some 63)) 0 ()
    [some (.scr ns), some (.int 7), none] [] (by omega) (fun x hx i s ρ st hi h => t_purse h) ⟨7, none, rfl, rfl, by omega, by omega⟩
  have hp : binI .pow 10 18 = some (.int 1000000000000000000) := by rfl
  have hc : slcD [] (.scr ns) none (some 63) = some (.lst ((cutL ns none (some 63)).map .int)) := rfl
  simp [b__law_purse, hc, e, hp]
  have hl : (cutL ns none (some 63)).length ≤ 63 := by
    rw [show (63 : Int) = ((63 : Nat) : Int) from rfl, cutL_head, List.length_take]
    omega
  simp [show (cutL ns none (some 63)).length ≤ line by unfold line; omega]
  obtain ⟨k, rfl⟩ := Int.eq_ofNat_of_zero_le hs
  exact ⟨_, 0, 0, 0, k, rfl, by omega, Nat.le_trans (List.length_filter_le _ _) hl, by omega, by omega⟩
theorem strsD_app {xs ys : List D} {a b : List Str} (h : strsD xs = some a) (h2 : strsD ys = some b) : strsD (xs ++ ys) = some (a ++ b) := by
  induction xs generalizing a with
  | nil => cases h; exact h2
  | cons x xs ih =>
    cases x <;> try (cases h; done)
    rename_i z
    show (strsD (xs ++ ys)).map (z :: ·) = _
    have h : (strsD xs).map (z :: ·) = some a := h
    cases e : strsD xs with
    | none => rw [e] at h; cases h
    | some c =>
      rw [e] at h
      cases h
      rw [ih e]
      rfl
theorem strsD_str {a : List Str} : strsD (a.map D.str) = some a := by
  have := qstrsD_map (f := fun z => z) (xs := a)
  simpa using this
end L
end MP
end
section
set_option maxRecDepth 100000
set_option maxHeartbeats 4000000
namespace MP
namespace L
open PySem PySem.Builtin.Str
def signs : List Str := [(Str.ofString " "), (Str.ofString "\n"), (Str.ofString "0"), (Str.ofString "-"), (Str.ofString "1"), (Str.ofString "a"), (Str.ofString "+"), (Str.ofString "_"), (Str.ofString "6"), (Str.ofString "#"), (Str.ofString "   "), (Str.ofString "\t")]
def odds : List Str := [(Str.ofString ""), (Str.ofString "points 3"), (Str.ofString "points 0"), (Str.ofString "points 8"), (Str.ofString "points"), (Str.ofString "points 1 1"), (Str.ofString "Points 3"), (Str.ofString "top"), (Str.ofString "top 0"), (Str.ofString "top 0 1"), (Str.ofString "top 1 0"), (Str.ofString "top 0 0"), (Str.ofString "top 7"), (Str.ofString "top -1"), (Str.ofString "top 00"), (Str.ofString "tops 0"), (Str.ofString "face 0"), (Str.ofString "top 0 1 2 3 4 5 6"), (Str.ofString "top 1234567890")]
theorem signs_tx : ∀ z ∈ signs, Tx 3 z := by
  have h : signs.all (fun z => decide (z.length ≤ 3) && PyData.strOk z) = true := by decide +kernel
  intro z hz
  have := List.all_eq_true.mp h z hz
  rw [Bool.and_eq_true, decide_eq_true_eq] at this
  exact ⟨this.1, this.2⟩
theorem odds_tx : ∀ z ∈ odds, Tx 20 z := by
  have h : odds.all (fun z => decide (z.length ≤ 20) && PyData.strOk z) = true := by decide +kernel
  intro z hz
  have := List.all_eq_true.mp h z hz
  rw [Bool.and_eq_true, decide_eq_true_eq] at this
  exact ⟨this.1, this.2⟩
def zeros : Str := Str.ofString "top " ++ Txt.mul (Str.ofString "0") 5000
theorem mul0_tx : Tx 5000 (Txt.mul (Str.ofString "0") 5000) := by
  have h1 : (Str.ofString "0").length = 1 := by decide +kernel
  have := mul_tx (z := Str.ofString "0") (k := 5000) (by omega) (by omega) ok0
  rw [h1] at this
  exact this
theorem zeros_tx : Tx 5004 zeros := app_tx (N := 4) (M := 5000) (lit_tx (by decide +kernel)) mul0_tx |>.mono (by omega)
theorem mul_eq {st : Store} : binD st .mul (.str (Str.ofString "0")) (.int 5000) = some (.str (Txt.mul (Str.ofString "0") 5000)) := by
  have h1 : (Str.ofString "0").length = 1 := by decide +kernel
  exact bin_mul (k := 5000) (by omega) (by omega) (by omega) (by rw [h1]; unfold line; omega)
theorem zeros_eq {st : Store} : binD st .add (.str (Str.ofString "top ")) (.str (Txt.mul (Str.ofString "0") 5000)) = some (.str zeros) := by
  have h1 : (Str.ofString "top ").length = 4 := by decide +kernel
  exact bin_SS (by have := mul0_tx.len; unfold line; omega)
theorem s_texts {n b : Nat} {z : Str} {p : Cell} {tl : Store} (hp : PuOk b p) (hz : Tx 700 z) (hb : b ≤ 700000000) : ∃ (zs : List Str) (p' : Cell) (tl' : Store), rn (n + 3) f__law_texts [.cel 0, .str z] (p :: tl) = .ok (.lst (zs.map .str)) (p' :: tl') ∧ (∀ y ∈ zs, Tx 10000 y) ∧ zs.length ≤ 100 ∧ PuOk (b + 100) p' := by
  have hzl := hz.len
  have hlt := split_tx hz (b := Str.ofString "\n")
  have hlc := split_count z (Str.ofString "\n")
  have hl0 : 0 < (Txt.split z (Str.ofString "\n")).length := by
    obtain ⟨a, r, e⟩ := split_pos z (Str.ofString "\n")
    rw [e]; simp
  obtain ⟨v1, p1, e1, v10, v11, hp1⟩ := s_draw (n := n + 1) (many := z.length + 1) (tl := tl) hp (by omega) (by omega) (by omega)
  obtain ⟨v2, p2, e2, v20, v21, hp2⟩ := s_draw (n := n + 1) (many := (Txt.split z (Str.ofString "\n")).length) (tl := tl) hp1 (by omega) (by omega) (by omega)
  rw [rn_succ lk__law_texts]
  have sp : ∀ st, metD st .split (.str z) [.str (Str.ofString "\n")] = some (.lst ((Txt.split z (Str.ofString "\n")).map .str), st) := fun st => split_str (by simp) (by unfold line; omega)
  have hsum := split_sum z (Str.ofString "\n")
  generalize Txt.split z (Str.ofString "\n") = L at *
  have hG : GL 700 702 L := ⟨fun w hw => (hlt w hw).ok, by omega, by omega⟩
  have nl : Tx 1 (Str.ofString "\n") := lit_tx (by decide +kernel)
  have cz : ∀ a b, Tx 700 (L2.cutS z a b) := fun a b => cut_tx hz a b
  have b1 : ∀ st a b c d, binD st .add (.str (L2.cutS z a b)) (.str (L2.cutS z c d)) = some (.str (L2.cutS z a b ++ L2.cutS z c d)) := fun st a b c d => bin_SS (by have := (cz a b).len; have := (cz c d).len; unfold line; omega)
  have b2 : ∀ st, binD st .add (.str z) (.str z) = some (.str (z ++ z)) := fun st => bin_SS (by unfold line; omega)
  have b3 : ∀ st a b c d, binD st .add (.lst (cutL (L.map .str) a b)) (.lst (cutL (L.map .str) c d)) = some (.lst ((cutL L a b ++ cutL L c d).map .str)) := fun st a b c d => by
    rw [qcutL_map, qcutL_map, bin_LL (by have := (hG.cut a b).len; have := (hG.cut c d).len; simp; unfold line; omega), List.map_append]
  have b4 : ∀ st a b, binD st .add (.lst (cutL (L.map .str) a b)) (.lst (L.map .str).tail.reverse) = some (.lst ((cutL L a b ++ L.tail.reverse).map .str)) := fun st a b => by
    rw [qcutL_map, bin_LL (by have := (hG.cut a b).len; have := hG.tail.len; simp at *; unfold line; omega), List.map_append, List.map_reverse, List.map_tail]
  have j1 : ∀ st a b c d, metD st .join (.str (Str.ofString "\n")) [.lst ((cutL L a b ++ cutL L c d).map .str)] = some (.str (Txt.join (Str.ofString "\n") (cutL L a b ++ cutL L c d)), st) := fun st a b c d => (((hG.cut a b).app (hG.cut c d)).join nl (N := 10000) (by omega) (by decide)).2 st _ strsD_str
  have j2 : ∀ st a b, metD st .join (.str (Str.ofString "\n")) [.lst ((cutL L a b ++ L.tail.reverse).map .str)] = some (.str (Txt.join (Str.ofString "\n") (cutL L a b ++ L.tail.reverse)), st) := fun st a b => (((hG.cut a b).app hG.tail.rev).join nl (N := 10000) (by omega) (by decide)).2 st _ strsD_str
  have j3 : ∀ st, metD st .join (.str (Str.ofString "\n")) [.lst (L.map .str).reverse] = some (.str (Txt.join (Str.ofString "\n") L.reverse), st) := fun st => (hG.rev.join nl (N := 10000) (by omega) (by decide)).2 st _ (by rw [← List.map_reverse]; exact strsD_str)
  have bL : ∀ st (xs ys : List D), xs.length ≤ 1000 → ys.length ≤ 1000 → binD st .add (.lst xs) (.lst ys) = some (.lst (xs ++ ys)) := fun st xs ys h1 h2 => bin_LL (by unfold line; omega)
  obtain ⟨fs, p3, tl3, e3, f1, f2, hp3⟩ := s_shuffled (n := n) (ds := [D.str (Str.ofString " "), D.str (Str.ofString "\n"), D.str (Str.ofString "0"), D.str (Str.ofString "-"), D.str (Str.ofString "1"), D.str (Str.ofString "a"), D.str (Str.ofString "+"), D.str (Str.ofString "_"), D.str (Str.ofString "6"), D.str (Str.ofString "#"), D.str (Str.ofString "   "), D.str (Str.ofString "\t")]) (tl := tl) hp2 (by simp) (by omega)
  have hfs : ∀ d ∈ fs, ∃ u, d = D.str u ∧ Tx 3 u := fun d hd => by
    obtain ⟨u, hu, rfl⟩ := List.mem_map.mp (show d ∈ signs.map D.str from f1 d hd)
    exact ⟨u, rfl, signs_tx u hu⟩
  obtain ⟨us, rfl, hus⟩ := exists_map fs hfs
  simp [-List.map_append, e3, b__law_texts, sp, len_str (show z.length ≤ line by unfold line; omega), e1, e2, slc_str (show z.length ≤ line by unfold line; omega), b1, b2, b3, j1, b4, j2, j3, bL]
  rw [qcutL_map, lcR_mapI, lcR_ok (F := fun u => .str (L2.cutS z none (some v1) ++ u ++ L2.cutS z (some v1) none)) (by have := cutL_len (xs := us) (a := none) (b := some 4); simp at f2; unfold line; omega)]
  · have hu2 : ((cutL us none (some 4)).map fun u => D.str (L2.cutS z none (some v1) ++ u ++ L2.cutS z (some v1) none)) = ((cutL us none (some 4)).map fun u => L2.cutS z none (some v1) ++ u ++ L2.cutS z (some v1) none).map D.str := by rw [List.map_map]; rfl
    have hT2 : ∀ y ∈ (cutL us none (some 4)).map (fun u => L2.cutS z none (some v1) ++ u ++ L2.cutS z (some v1) none), Tx 10000 y := fun y hy => by
      obtain ⟨u, hu, rfl⟩ := List.mem_map.mp hy
      exact (app_tx (app_tx (cz _ _) (hus u (mem_cutL hu))) (cz _ _)).mono (by decide)
    have hL2 : ((cutL us none (some 4)).map (fun u => L2.cutS z none (some v1) ++ u ++ L2.cutS z (some v1) none)).length ≤ 12 := by
      have := cutL_len (xs := us) (a := none) (b := some 4)
      simp at f2 ⊢
      omega
    rw [hu2]
    generalize (cutL us none (some 4)).map (fun u => L2.cutS z none (some v1) ++ u ++ L2.cutS z (some v1) none) = B at *
    have hT1 : ∀ y ∈ [z, L2.cutS z none (some (-1)), L2.cutS z none (some v1) ++ L2.cutS z (some (v1 + 1)) none, z ++ z, Txt.join (Str.ofString "\n") (cutL L none (some v2) ++ cutL L (some (v2 + 1)) none), Txt.join (Str.ofString "\n") (cutL L none (some (v2 + 1)) ++ cutL L (some v2) none), Txt.join (Str.ofString "\n") (cutL L none (some 1) ++ L.tail.reverse), Txt.join (Str.ofString "\n") L.reverse], Tx 10000 y := by
      intro y hy
      have jj := fun a b c d => (((hG.cut a b).app (hG.cut c d)).join nl (N := 10000) (by omega) (by decide)).1
      simp only [List.mem_cons, List.not_mem_nil, or_false] at hy
      rcases hy with rfl | rfl | rfl | rfl | rfl | rfl | rfl | rfl
      · exact hz.mono (by decide)
      · exact (cz _ _).mono (by decide)
      · exact (app_tx (cz _ _) (cz _ _)).mono (by decide)
      · exact (app_tx hz hz).mono (by decide)
      · exact jj _ _ _ _
      · exact jj _ _ _ _
      · exact (((hG.cut _ _).app hG.tail.rev).join nl (N := 10000) (by omega) (by decide)).1
      · exact (hG.rev.join nl (N := 10000) (by omega) (by decide)).1
    have eA : [D.str z, D.str (L2.cutS z none (some (-1))), D.str (L2.cutS z none (some v1) ++ L2.cutS z (some (v1 + 1)) none), D.str (z ++ z), D.str (Txt.join (Str.ofString "\n") (cutL L none (some v2) ++ cutL L (some (v2 + 1)) none)), D.str (Txt.join (Str.ofString "\n") (cutL L none (some (v2 + 1)) ++ cutL L (some v2) none)), D.str (Txt.join (Str.ofString "\n") (cutL L none (some 1) ++ L.tail.reverse)), D.str (Txt.join (Str.ofString "\n") L.reverse)] = [z, L2.cutS z none (some (-1)), L2.cutS z none (some v1) ++ L2.cutS z (some (v1 + 1)) none, z ++ z, Txt.join (Str.ofString "\n") (cutL L none (some v2) ++ cutL L (some (v2 + 1)) none), Txt.join (Str.ofString "\n") (cutL L none (some (v2 + 1)) ++ cutL L (some v2) none), Txt.join (Str.ofString "\n") (cutL L none (some 1) ++ L.tail.reverse), Txt.join (Str.ofString "\n") L.reverse].map D.str := rfl
    rw [eA]
    have hA8 : [z, L2.cutS z none (some (-1)), L2.cutS z none (some v1) ++ L2.cutS z (some (v1 + 1)) none, z ++ z, Txt.join (Str.ofString "\n") (cutL L none (some v2) ++ cutL L (some (v2 + 1)) none), Txt.join (Str.ofString "\n") (cutL L none (some (v2 + 1)) ++ cutL L (some v2) none), Txt.join (Str.ofString "\n") (cutL L none (some 1) ++ L.tail.reverse), Txt.join (Str.ofString "\n") L.reverse].length = 8 := rfl
    generalize [z, L2.cutS z none (some (-1)), L2.cutS z none (some v1) ++ L2.cutS z (some (v1 + 1)) none, z ++ z, Txt.join (Str.ofString "\n") (cutL L none (some v2) ++ cutL L (some (v2 + 1)) none), Txt.join (Str.ofString "\n") (cutL L none (some (v2 + 1)) ++ cutL L (some v2) none), Txt.join (Str.ofString "\n") (cutL L none (some 1) ++ L.tail.reverse), Txt.join (Str.ofString "\n") L.reverse] = A at *
    clear eA
    obtain ⟨gs, p4, tl4, e4, g1, g2, hp4⟩ := s_shuffled (n := n) (ds := [D.str (Str.ofString ""), D.str (Str.ofString "points 3"), D.str (Str.ofString "points 0"), D.str (Str.ofString "points 8"), D.str (Str.ofString "points"), D.str (Str.ofString "points 1 1"), D.str (Str.ofString "Points 3"), D.str (Str.ofString "top"), D.str (Str.ofString "top 0"), D.str (Str.ofString "top 0 1"), D.str (Str.ofString "top 1 0"), D.str (Str.ofString "top 0 0"), D.str (Str.ofString "top 7"), D.str (Str.ofString "top -1"), D.str (Str.ofString "top 00"), D.str (Str.ofString "tops 0"), D.str (Str.ofString "face 0"), D.str (Str.ofString "top 0 1 2 3 4 5 6"), D.str (Str.ofString "top 1234567890"), D.str zeros, D.str (Str.ofString "top 0 a")]) (tl := tl3) (hp3.mono (show b + 1 + 1 + _ ≤ b + 14 by simp)) (by simp) (by omega)
    have hgs : ∀ d ∈ gs, ∃ u, d = D.str u ∧ Tx 5010 u := fun d hd => by
      have hd := g1 d hd
      obtain ⟨u, hu, rfl⟩ := List.mem_map.mp (show d ∈ (odds ++ [zeros, Str.ofString "top 0 a"]).map D.str from hd)
      refine ⟨u, rfl, ?_⟩
      rcases List.mem_append.mp hu with hu | hu
      · exact (odds_tx u hu).mono (by decide)
      · simp at hu
        rcases hu with rfl | rfl
        · exact zeros_tx.mono (by decide)
        · exact lit_tx (by decide +kernel)
    obtain ⟨vs, rfl, hvs⟩ := exists_map gs hgs
    simp [-List.map_append, bL, mul_eq, zeros_eq, e4, sp, hA8, hL2, show B.length ≤ 1000 by omega]
    have hv5 : (cutL vs none (some 10)).length ≤ 21 := by
      have := cutL_len (xs := vs) (a := none) (b := some 10)
      simp at g2
      omega
    have hJ : ∀ u, Tx 5010 u → GL 6410 1405 (cutL L none (some v2) ++ [u] ++ cutL L (some (v2 + 1)) none) := fun u hu => (((hG.cut none (some v2)).app (GL.one hu)).app (hG.cut (some (v2 + 1)) none))
    rw [qcutL_map, lcR_mapI, lcR_ok (F := fun u => .str (Txt.join (Str.ofString "\n") (cutL L none (some v2) ++ [u] ++ cutL L (some (v2 + 1)) none))) (by unfold line; omega)]
    · have eB : ((cutL vs none (some 10)).map fun u => D.str (Txt.join (Str.ofString "\n") (cutL L none (some v2) ++ [u] ++ cutL L (some (v2 + 1)) none))) = ((cutL vs none (some 10)).map fun u => Txt.join (Str.ofString "\n") (cutL L none (some v2) ++ [u] ++ cutL L (some (v2 + 1)) none)).map D.str := by rw [List.map_map]; rfl
      refine ⟨A ++ B ++ (cutL vs none (some 10)).map (fun u => Txt.join (Str.ofString "\n") (cutL L none (some v2) ++ [u] ++ cutL L (some (v2 + 1)) none)), p4, ⟨tl4, ?_⟩, ?_, ?_, ?_⟩
      · rw [eB]
        simp only [R.bind_ok]
        rw [bL _ _ _ (by simp; omega) (by simp; omega)]
        simp
      · intro y hy
        rcases List.mem_append.mp hy with hy | hy
        · rcases List.mem_append.mp hy with hy | hy
          · exact hT1 y hy
          · exact hT2 y hy
        · obtain ⟨u, hu, rfl⟩ := List.mem_map.mp hy
          exact ((hJ u (hvs u (mem_cutL hu))).join nl (N := 10000) (by omega) (by decide)).1
      · simp only [List.length_append, List.length_map]
        omega
      · refine hp4.mono ?_
        simp
    · intro u hu
      have hu := hvs u (mem_cutL hu)
      have h1 := (hG.cut none (some v2)).len
      have h2 := (hG.cut (some (v2 + 1)) none).len
      have := ((hJ u hu).join nl (N := 10000) (by omega) (by decide)).2
      simp [qcutL_map]
      rw [bin_LL (by simp; unfold line; omega)]
      simp only [ofO_some, R.bind_ok]
      rw [bin_LL (by simp; unfold line; omega)]
      simp only [ofO_some, R.bind_ok]
      rw [this _ _ (by
        show strsD _ = _
        exact strsD_app (strsD_app strsD_str rfl) strsD_str)]
      simp
  · intro u hu
    have h1 := hus u (mem_cutL hu)
    have h2 := h1.len
    have := (cz none (some v1)).len
    have := (cz (some v1) none).len
    simp [slc_str (show z.length ≤ line by unfold line; omega)]
    rw [bin_SS (by unfold line; omega)]
    simp only [ofO_some, R.bind_ok]
    rw [bin_SS (by rw [app_len]; unfold line; omega)]
    simp
end L
end MP
end
section
set_option maxRecDepth 100000
set_option maxHeartbeats 4000000
namespace MP
namespace L
open PySem PySem.Builtin.Str
/-- the long text -/
def longS : Str := Str.ofString "points 7\n" ++ Txt.join (Str.ofString "") ((List.range 21).map fun (k : Nat) => Str.ofString "top " ++ Str.ofString ((k : Int) / 4).repr ++ Str.ofString " 6\n")
theorem longS_tx : Tx 10000 longS := by
  have h : (decide (longS.length ≤ 10000) && PyData.strOk longS) = true := by decide +kernel
  rw [Bool.and_eq_true, decide_eq_true_eq] at h
  exact ⟨h.1, h.2⟩
theorem long_wrong : wrongD longS = .int 22 := by
  have h : (match parse longS with | .error k => decide (k = 22) | _ => false) = true := by decide +kernel
  unfold wrongD
  revert h
  cases parse longS with
  | error e => intro h; rw [of_decide_eq_true h]
  | ok s => intro h; cases h
theorem short_wrong : wrongD (L2.cutS longS none (some (-8))) = .non := by
  have h : (match parse (L2.cutS longS none (some (-8))) with | .ok (some _, _) => true | _ => false) = true := by decide +kernel
  unfold wrongD
  revert h
  rcases parse (L2.cutS longS none (some (-8))) with e | ⟨m, ls⟩
  · intro h; cases h
  · cases m with
    | none => intro h; cases h
    | some m => intro _; rfl
end L
end MP
end
section
set_option maxRecDepth 100000
set_option maxHeartbeats 4000000
namespace MP
namespace L
open PySem PySem.Builtin.Str
/-! ### the law -/
theorem nice_complex {k : Nat} {m : Int} {ls : List (List Int)} (h1 : ls.length ≤ line) (h2 : ∀ l ∈ ls, l.length ≤ line) : Nice (k + 3) (complexD m ls) := by
  refine .tup le3_line fun d hd => ?_
  simp only [List.mem_cons, List.not_mem_nil, or_false] at hd
  rcases hd with rfl | rfl | rfl
  · exact .str (qokS (by decide +kernel))
  · exact .int
  · refine .lst (by simp [srt_length]; exact Nat.le_trans len_cfold h1) fun d hd => ?_
    obtain ⟨l, hl, rfl⟩ := List.mem_map.mp hd
    refine .lst (by simpa using h2 l (mem_cfold l ((List.mergeSort_perm _ _).mem_iff.mp hl))) fun d hd => ?_
    obtain ⟨i, _, rfl⟩ := List.mem_map.mp hd
    exact .int
theorem same_list {n : Nat} {d : D} (h : Nice 0 d) : rn (n + 8) f__law_same [.lst [d, d], .lst [d, d]] [] = .ok (.bl true) [] :=
  s_law_same (n := n + 6) (k := 1) (.lst (by simp) fun x hx => by
    simp at hx
    rw [hx]; exact h)
/-- one text -/
theorem t_late {n : Nat} {z : Str} (hz : Tx 10000 z) {a0 a1 a2 a3 a4 a5 a6 a7 a8 a9 : Option D} {st : Store} :
    ∃ b7 b8, forT (cx (n + 8)) [6] false l_law_1 (.str z) [a0, a1, a2, a3, a4, a5, a6, a7, a8, a9] st = .nx [a0, a1, a2, a3, a4, a5, some (.str z), some b7, some b8, a9] st := by
  obtain ⟨st1, e1⟩ := s_law_read (n := n + 4) hz (by decide)
  have e1 : rn (n + 8) f__law_read [.str z] [] = .ok (lawD (parse z)) st1 := e1
  have e2 : ∀ st, rn (n + 8) f_wrong_line [.str z] st = .ok (wrongD z) st := fun st => s_wrong_line (n := n + 3) (st := st) hz (by decide)
  have e3 : rn (n + 8) f_read_complex [.str z] [] = complexR z [] := s_read_complex (n := n + 3) (st := []) hz (by decide)
  have e4 : rn (n + 7) f_read_complex [.str z] [] = complexR z [] := s_read_complex (n := n + 2) (st := []) hz (by decide)
  have bad : complexR z [] = .exc x_InvalidText (.str z) [] → rn (n + 8) f__law_refused [.fn f_read_complex, .str z] [] = .ok (.bl true) [] := fun h =>
    s_refused_bad (n := n + 6) hz.ok (by have := hz.len; unfold line; omega) (by decide) (by rw [e4, h])
  rcases hp : parse z with e | ⟨m, ls⟩
  · have w : wrongD z = .int e := by unfold wrongD; rw [hp]
    have c : complexR z [] = .exc x_InvalidText (.str z) [] := by unfold complexR; rw [hp]
    have hb := bad c
    simp [l_law_1, e1, hp, lawD, e2, w, same_list Nice.int, hb]
  · cases m with
    | none =>
      have w : wrongD z = .int 0 := by unfold wrongD; rw [hp]
      have c : complexR z [] = .exc x_InvalidText (.str z) [] := by unfold complexR; rw [hp]
      have hb := bad c
      simp [l_law_1, e1, hp, lawD, e2, w, same_list Nice.int, hb]
    | some m =>
      have w : wrongD z = .non := by unfold wrongD; rw [hp]
      have c : complexR z [] = .ok (complexD m ls) [] := by unfold complexR; rw [hp]
      have h0 := parse_lots hz hp
      have hs : rn (n + 8) f__law_same [complexD m ls, complexD m ls] [] = .ok (.bl true) [] := s_law_same (n := n + 4) (k := 3) (nice_complex (k := 0) (Nat.le_trans h0.1 (by decide)) fun l hl => Nat.le_trans (h0.2 l hl) (by decide))
      simp [l_law_1, e1, hp, lawD, e2, w, same_list Nice.non, e3, c, hs]
theorem late_loop {n : Nat} {us : List Str} (h : ∀ z ∈ us, Tx 10000 z) {a0 a1 a2 a3 a4 a5 a6 a7 a8 a9 : Option D} {st : Store} :
    ∃ b6 b7 b8, forGo { its := us.map D.str } (forT (cx (n + 8)) [6] false l_law_1) (us.map D.str) [a0, a1, a2, a3, a4, a5, a6, a7, a8, a9] st = .nx [a0, a1, a2, a3, a4, a5, b6, b7, b8, a9] st := by
  obtain ⟨ρ', st', e, ⟨b6, b7, b8, rfl⟩, rfl⟩ := for_fold (α := Str) (enc := D.str) (w := { its := us.map D.str }) (f := forT (cx (n + 8)) [6] false l_law_1) (fun _ (_ : Unit) ρ st' => (∃ b6 b7 b8, ρ = [a0, a1, a2, a3, a4, a5, b6, b7, b8, a9]) ∧ st' = st) (fun _ _ => ()) (n := us.length) (fun _ _ _ _ _ => rfl) us 0 () [a0, a1, a2, a3, a4, a5, a6, a7, a8, a9] st (by omega) (fun z hz i s ρ st' hi h => by
    obtain ⟨⟨b6, b7, b8, rfl⟩, rfl⟩ := h
    obtain ⟨c7, c8, e⟩ := t_late (n := n) (h z hz) (a0 := a0) (a1 := a1) (a2 := a2) (a3 := a3) (a4 := a4) (a5 := a5) (a6 := b6) (a7 := b7) (a8 := b8) (a9 := a9) (st := st')
    rw [e]
    exact ⟨⟨_, _, _, rfl⟩, rfl⟩) ⟨⟨_, _, _, rfl⟩, rfl⟩
  exact ⟨b6, b7, b8, e⟩
theorem s_turn {n : Nat} {x : D} {ns : List Int} {b : Nat} (hb : b ≤ 600000000) {p : Cell} {tl : Store} (hp : PuOk b p) {o2 o4 o5 o6 o7 o8 o9 : Option D} :
    ∃ (p' : Cell) (tl' : Store) (b4 b5 b6 b7 b8 b9 : Option D), forT (cx (n + 8)) [4] false l_law_2 x [some (.scr ns), some (.cel 0), o2, some (.str longS), o4, o5, o6, o7, o8, o9] (p :: tl) = .nx [some (.scr ns), some (.cel 0), o2, some (.str longS), b4, b5, b6, b7, b8, b9] (p' :: tl') ∧ PuOk (b + 300) p' := by
  obtain ⟨v, p1, e1, v0, v1, hp1⟩ := s_draw (n := n + 7) (many := 7) (tl := tl) hp (by omega) (by omega) (by omega)
  obtain ⟨tops, p2, e2, t1, t2, hp2⟩ := s_body (n := n + 5) (many := 1 + v) (tl := tl) hp1 (by omega) (by omega) (by omega)
  obtain ⟨rows, e3, hr⟩ := s_rows (n := n + 7) (many := 1 + v) (tops := tops) (st := []) (by omega) t1 t2
  obtain ⟨z, e4, hz⟩ := s_joined (n := n + 7) (st := []) hr
  obtain ⟨zs, p3, tl3, e5, h5, h6, hp3⟩ := s_texts (n := n + 5) (tl := tl) hp2 hz (by omega)
  obtain ⟨d, p4, e6, h7, hp4⟩ := s_pick (n := n + 6) (tl := tl3) (ds := [D.str (Str.ofString ""), D.str (Str.ofString "#"), D.str (Str.ofString "\n\n"), D.str (Str.ofString "points 3"), D.str longS, D.str (L2.cutS longS none (some (-8))), D.str (Str.ofString "points 1\ntop 0\ntop 0")]) hp3 (by simp) (by simp) (by omega)
  have hd : ∃ y, d = .str y ∧ Tx 10000 y := by
    simp only [List.mem_cons, List.not_mem_nil, or_false] at h7
    rcases h7 with rfl | rfl | rfl | rfl | rfl | rfl | rfl
    · exact ⟨_, rfl, lit_tx (by decide +kernel)⟩
    · exact ⟨_, rfl, lit_tx (by decide +kernel)⟩
    · exact ⟨_, rfl, lit_tx (by decide +kernel)⟩
    · exact ⟨_, rfl, lit_tx (by decide +kernel)⟩
    · exact ⟨_, rfl, longS_tx⟩
    · exact ⟨_, rfl, cut_tx longS_tx _ _⟩
    · exact ⟨_, rfl, lit_tx (by decide +kernel)⟩
  obtain ⟨y, rfl, hy⟩ := hd
  have hfr : freeD (bodyD (1 + v) tops) = true := by simp [bodyD, fr_M]
  have hfr2 : freeDs (rows.map fun r => D.lst (r.map .str)) = true := fr_map fun r => by rw [fr_lst]; exact fr_map fun _ => fr_str
  have hsl : slcD (p3 :: tl3) (.str longS) none (some (-8)) = some (.str (L2.cutS longS none (some (-8)))) := slc_str (Nat.le_trans longS_tx.len (by decide))
  have hbin : binD (p4 :: tl3) .add (.lst (zs.map .str)) (.lst [.str y]) = some (.lst ((zs ++ [y]).map .str)) := by
    rw [bin_LL (by simp; unfold line; omega), List.map_append]
    rfl
  obtain ⟨b6, b7, b8, e7⟩ := late_loop (n := n) (us := zs ++ [y]) (fun w hw => by
    rcases List.mem_append.mp hw with hw | hw
    · exact h5 w hw
    · rw [List.mem_singleton.mp hw]; exact hy) (a0 := some (.scr ns)) (a1 := some (.cel 0)) (a2 := o2) (a3 := some (.str longS)) (a4 := some x) (a5 := some (bodyD (1 + v) tops)) (a6 := o6) (a7 := o7) (a8 := o8) (a9 := o9) (st := p4 :: tl3)
  refine ⟨p4, tl3, some x, some (bodyD (1 + v) tops), b6, b7, b8, o9, ?_, hp4.mono (by omega)⟩
  simp [-List.map_append, l_law_2, e1, e2, e3, e4, e5, e6, hfr, hfr2, hsl, hbin, e7]
/-! ### no texts -/
theorem refused_gen {n f : Nat} {d : D} {r : Str} (hf : f < NF) (h : rn (n + 1) f [d] [] = .exc x_InvalidText d []) (hr : reprD [] d = some r) (hr0 : okZ r) : rn (n + 2) f__law_refused [.fn f, d] [] = .ok (.bl true) [] := by
  rw [rn_succ lk__law_refused]
  simp [b__law_refused, hf, h, hr, hr0]
theorem bad_both {n : Nat} {d : D} {r : Str} (h : isiD [] .str d = some false) (hr : reprD [] d = some r) (hr0 : okZ r) : rn (n + 8) f__law_refused [.fn f_wrong_line, d] [] = .ok (.bl true) [] ∧ rn (n + 8) f__law_refused [.fn f_read_complex, d] [] = .ok (.bl true) [] := by
  constructor
  · refine refused_gen (n := n + 6) (by decide) ?_ hr hr0
    rw [rn_succ lk_wrong_line]
    simp [b_wrong_line, h]
  · refine refused_gen (n := n + 6) (by decide) ?_ hr hr0
    rw [rn_succ lk_read_complex]
    simp [b_read_complex, h]
theorem t_bad {n : Nat} {d : D} {r : Str} (h : isiD [] .str d = some false) (hr : reprD [] d = some r) (hr0 : okZ r) (hf : freeD d = true) {a0 a1 a2 a3 a4 a5 a6 a7 a8 a9 : Option D} {st : Store} :
    forT (cx (n + 8)) [9] false l_law_0 d [a0, a1, a2, a3, a4, a5, a6, a7, a8, a9] st = .nx [a0, a1, a2, a3, a4, a5, a6, a7, a8, some d] st := by
  obtain ⟨h1, h2⟩ := bad_both (n := n) h hr hr0
  simp [l_law_0, h1, h2, hf]
theorem law_bads {n : Nat} {a0 a1 a2 a3 a4 a5 a6 a7 a8 a9 : Option D} {st : Store} : ∃ b9, forGo { its := [.non, .int 0, .lst [], .tup [.str (Str.ofString "points 2\n")], .bl true, .dic []] } (forT (cx (n + 8)) [9] false l_law_0) [.non, .int 0, .lst [], .tup [.str (Str.ofString "points 2\n")], .bl true, .dic []] [a0, a1, a2, a3, a4, a5, a6, a7, a8, a9] st = .nx [a0, a1, a2, a3, a4, a5, a6, a7, a8, b9] st := by
  refine ⟨some (.dic []), ?_⟩
  rw [for_cons still_non, t_bad (r := Str.ofString "None") rfl rfl (qokS (by decide +kernel)) (by simp), E.turn_nx]
  rw [for_cons still_non, t_bad (r := Str.ofString "0") rfl rfl (qokS (by decide +kernel)) (by simp), E.turn_nx]
  rw [for_cons still_non, t_bad (r := Str.ofString "[]") rfl rfl (qokS (by decide +kernel)) (by simp), E.turn_nx]
  rw [for_cons still_non, t_bad (r := Str.ofString "('points 2\\n',)") rfl (by kernel_rfl) (qokS (by decide +kernel)) (by simp), E.turn_nx]
  rw [for_cons still_non, t_bad (r := Str.ofString "True") rfl rfl (qokS (by decide +kernel)) (by simp), E.turn_nx]
  rw [for_cons still_non, t_bad (r := Str.ofString "{}") rfl rfl (qokS (by decide +kernel)) (by simp), E.turn_nx]
  rw [for_nil still_non]
/-- the law, at every script -/
theorem law_holds (ns : List Int) (hns : ns.length ≤ 63) : ∃ st, rn 20 f_law [.scr ns] [] = .ok (.bl true) st := by
  obtain ⟨p, e1, hp⟩ := s_purse (n := 18) (ns := ns)
  rw [rn_succ lk_law]
  have hlong : ∀ st, 1 = 1 := fun (st : Store) => rfl
  obtain ⟨ρ', st', e2, ⟨p', tl', b4, b5, b6, b7, b8, b9, rfl, rfl, hp'⟩⟩ := for_fold (α := Nat) (enc := fun (k : Nat) => D.int k) (w := { its := (List.range 10).map fun (k : Nat) => D.int k }) (f := forT (cx 19) [4] false l_law_2) (fun i (_ : Unit) ρ st' => ∃ (p' : Cell) (tl' : Store) (b4 b5 b6 b7 b8 b9 : Option D), ρ = [some (.scr ns), some (.cel 0), none, some (.str longS), b4, b5, b6, b7, b8, b9] ∧ st' = p' :: tl' ∧ PuOk (300 * i) p') (fun _ _ => ()) (n := 10) (fun _ _ _ _ _ => rfl) (List.range 10) 0 () [some (.scr ns), some (.cel 0), none, some (.str longS), none, none, none, none, none, none] [p] (by decide) (fun x hx i s ρ st' hi h => by
    obtain ⟨p', tl', b4, b5, b6, b7, b8, b9, rfl, rfl, hp'⟩ := h
    obtain ⟨p2, tl2, c4, c5, c6, c7, c8, c9, e, hp2⟩ := s_turn (n := 11) (x := D.int x) (ns := ns) (by omega) hp'
    rw [e]
    exact ⟨p2, tl2, c4, c5, c6, c7, c8, c9, rfl, rfl, hp2.mono (by omega)⟩) ⟨p, [], none, none, none, none, none, none, rfl, rfl, hp⟩
  simp [b_law, e1]
  rw [lcR_ok (F := fun (k : Nat) => .str (Str.ofString "top " ++ Str.ofString ((k : Int) / 4).repr ++ Str.ofString " 6\n")) (by simp)]
  · have hk : ∀ k : Nat, k < 21 → Tx 8 (Str.ofString "top " ++ Str.ofString ((k : Int) / 4).repr ++ Str.ofString " 6\n") := fun k hk =>
      app_tx (N := 5) (M := 3) (app_tx (N := 4) (M := 1) (lit_tx (by decide +kernel)) (str_fig (i := (k : Int) / 4) (by omega) (by omega)).2) (lit_tx (by decide +kernel))
    have hj := join_fit (M := 8) (S := 0) (C := 21) (N := 168) (sep := Str.ofString "") (zs := (List.range 21).map fun (k : Nat) => Str.ofString "top " ++ Str.ofString ((k : Int) / 4).repr ++ Str.ofString " 6\n") (lit_tx (by decide +kernel)) (fun z hz => by
      obtain ⟨k, hk2, rfl⟩ := List.mem_map.mp hz
      exact hk k (List.mem_range.mp hk2)) (by simp) (by decide)
    have hj2 : ∀ st, metD st .join (.str (Str.ofString "")) [.lst ((List.range 21).map fun (k : Nat) => D.str (Str.ofString "top " ++ Str.ofString ((k : Int) / 4).repr ++ Str.ofString " 6\n"))] = some (.str (Txt.join (Str.ofString "") ((List.range 21).map fun (k : Nat) => Str.ofString "top " ++ Str.ofString ((k : Int) / 4).repr ++ Str.ofString " 6\n")), st) := fun st =>
      join_strs qstrsD_map (Nat.le_trans hj.1 (by decide))
    have hb : ∀ st, binD st .add (.str (Str.ofString "points 7\n")) (.str (Txt.join (Str.ofString "") ((List.range 21).map fun (k : Nat) => Str.ofString "top " ++ Str.ofString ((k : Int) / 4).repr ++ Str.ofString " 6\n"))) = some (.str longS) := fun st =>
      bin_SS (by have := hj.2.len; have : (Str.ofString "points 7\n").length = 9 := by decide +kernel
                 unfold line; omega)
    have hw1 : rn 19 f_wrong_line [.str longS] [] = .ok (.int 22) [] := by
      rw [← long_wrong]
      exact s_wrong_line (n := 14) longS_tx (by decide)
    have hw2 : rn 19 f_wrong_line [.str (L2.cutS longS none (some (-8)))] [] = .ok .non [] := by
      rw [← short_wrong]
      exact s_wrong_line (n := 14) (cut_tx longS_tx _ _) (by decide)
    have hsl : ∀ st, slcD st (.str longS) none (some (-8)) = some (.str (L2.cutS longS none (some (-8)))) := fun st => slc_str (Nat.le_trans longS_tx.len (by decide))
    obtain ⟨c9, e3⟩ := law_bads (n := 11) (a0 := some (.scr ns)) (a1 := some (.cel 0)) (a2 := none) (a3 := some (.str longS)) (a4 := b4) (a5 := b5) (a6 := b6) (a7 := b7) (a8 := b8) (a9 := b9) (st := p' :: tl')
    simp [hj2, hb, e2, e3, hw1, hw2, hsl]
  · intro k hk
    have hk := List.mem_range.mp hk
    have h1 := str_fig (i := (k : Int) / 4) (by omega) (by omega)
    have h1' : Tx 1 (Str.ofString ((k : Int) / 4).repr) := h1.2
    have h4 : (Str.ofString "top ").length = 4 := by decide +kernel
    have h3 : (Str.ofString " 6\n").length = 3 := by decide +kernel
    have h2 := h1'.len
    simp [h1.1]
    rw [bin_SS (by unfold line; omega)]
    simp only [ofO_some, R.bind_ok]
    rw [bin_SS (by rw [app_len]; unfold line; omega)]
    rfl
end L
end MP
end
set_option maxHeartbeats 4000000
open PySem PySem.W PySem.Calls PyProof.Rows
theorem PySem.Challenge.cw_holestold_k87_wrong_lines_of_complexes_holds : PySem.Challenge.rw_holestold_k87_wrong_lines_of_complexes.Holds :=
  holds_of MP.L.law_holds
