import PyProof.Rows.All
import Wide.All
import OpenK.AllK
import Wide.FinOn
import KE.KStateDown
import HandS.ForMost
import HandS.Wide
import HandS.WideBits
import HandS.Deep
import HandS.Flow
import HandS.Exc
import HandS.ExcOwn
import HandS.WordsExc
import HandS.Defaults
import HandS.IsInst
import HandS.More
import HandS.Codes
import HandS.RaiseMore
import HandS.Style
import HandS.SortRule
import HandS.SortInts
import HandS.Conv
import HandS.Iter
import HandS.HeadEnd
import HandS.HeadHook1
import HandS.HeadHook2
import HandS.Head0
import HandS.Head1
import HandS.Head2
import HandS.CallSlots
import PySem.Challenge.RW_joborders_k89_whole_days_and_ovens_many
set_option Elab.async false
set_option linter.all false
set_option maxRecDepth 100000
set_option maxHeartbeats 0
/-! Z1: a small language of our own (IR) over plain data, and what its texts mean. Nothing of the machine here. -/
namespace Z
open PySem PySem.Spec PyProof.Rows L2

/-- data: None, bools, ints, texts, lists and tuples by value, a cell that may change, an instance that never changes -/
inductive D where
  | non | bl (b : Bool) | int (i : Int) | str (x : Str)
  | lst (xs : List D) | tup (xs : List D)
  | loc (n : Nat) | obj (c : Nat) (ds : List D) | scr (ns : List Int)
  deriving Inhabited
inductive Cell where
  | lst (xs : List D) | obj (c : Nat) (fs : List (Nat × D))
abbrev Mu := List Cell
inductive Slot where
  | emp | val (d : D) | own (xs : List D)
abbrev Rho := List Slot
inductive R (α : Type) where
  | ok (a : α) (μ : Mu) | ex (c : Nat) (a : Option D) (μ : Mu) | bad
inductive RS where
  | nx (ρ : Rho) (μ : Mu) | rt (d : D) (μ : Mu) | bk (ρ : Rho) (μ : Mu) | ct (ρ : Rho) (μ : Mu) | ex (c : Nat) (a : Option D) (ρ : Rho) (μ : Mu) | bad
def R.bind {α β : Type} (r : R α) (k : α → Mu → R β) : R β := match r with
  | .ok a μ => k a μ
  | .ex c a μ => .ex c a μ
  | .bad => .bad
def R.noex {α : Type} (r : R α) : R α := match r with
  | .ok a μ => .ok a μ
  | _ => .bad
def RS.bindR {α : Type} (ρ : Rho) (r : R α) (k : α → Mu → RS) : RS := match r with
  | .ok a μ => k a μ
  | .ex c a μ => .ex c a ρ μ
  | .bad => .bad
def RS.seq (r : RS) (k : Rho → Mu → RS) : RS := match r with
  | .nx ρ μ => k ρ μ
  | r => r
theorem R.bind_assoc {α β γ : Type} (r : R α) (k : α → Mu → R β) (l : β → Mu → R γ) : (r.bind k).bind l = r.bind fun a μ => (k a μ).bind l := by
  cases r <;> rfl
def R.opt {α : Type} (o : Option α) (μ : Mu) : R α := match o with
  | some a => .ok a μ
  | none => .bad

/-! ### operations on data -/
/-- a list of our own making -/
def asM (μ : Mu) : D → Option (List D)
  | .lst xs => some xs
  | .loc n => match μ[n]? with
    | some (.lst xs) => some xs
    | _ => none
  | _ => none
/-- a list, or the script -/
def asL (μ : Mu) : D → Option (List D)
  | .lst xs => some xs
  | .scr ns => some (ns.map .int)
  | .loc n => match μ[n]? with
    | some (.lst xs) => some xs
    | _ => none
  | _ => none
/-- a class: name (in the table of names), its __init__ (a place in the table of defs), its methods (name, place), its fields; frz: its instances never change and its __init__ only stores its arguments, in order -/
structure CI where
  nm : Nat
  ini : Nat
  mts : List (Nat × Nat)
  fld : List Nat
  frz : Bool
def fldOf (cs : List CI) (c : Nat) : List Nat := match cs[c]? with
  | some ci => ci.fld
  | none => []
def asO (cs : List CI) (μ : Mu) : D → Option (Nat × List (Nat × D))
  | .obj c ds => some (c, (fldOf cs c).zip ds)
  | .loc n => match μ[n]? with
    | some (.obj c fs) => some (c, fs)
    | _ => none
  | _ => none
mutual
def toPy0 : D → Option PyData
  | .non => some .none
  | .bl b => some (.bool b)
  | .int i => some (.int i)
  | .str x => some (.str x)
  | .lst xs => (toPys0 xs).map .list
  | .tup xs => (toPys0 xs).map .tuple
  | .loc _ => none
  | .obj _ _ => none
  | .scr _ => none
def toPys0 : List D → Option (List PyData)
  | [] => some []
  | x :: xs => match toPy0 x, toPys0 xs with
    | some y, some ys => some (y :: ys)
    | _, _ => none
end
def toPy (μ : Mu) (d : D) : Option PyData := match d with
  | .loc _ => match asM μ d with
    | some xs => (toPys0 xs).map .list
    | none => none
  | d => toPy0 d
def eqD (μ : Mu) (a b : D) : Option Bool := match toPy μ a, toPy μ b with
  | some x, some y => if SeqAt.shaped x && SeqAt.shaped y then some (PyData.eqv x y) else none
  | _, _ => none
def isNon : D → Bool
  | .non => true
  | _ => false
def truD (μ : Mu) : D → Option Bool
  | .non => some false
  | .bl b => some b
  | .int i => some (i != 0)
  | .str y => if y.length ≤ sizeLine then some ((y.length : Int) != 0) else none
  | .tup xs => some (!xs.isEmpty)
  | .lst xs => some (!xs.isEmpty)
  | .loc n => (asM μ (.loc n)).map fun xs => !xs.isEmpty
  | _ => none
def mulOk (i j : Int) : Bool := decide (i.natAbs.log2 + j.natAbs.log2 < 1000000)
def divOk (j : Int) : Bool := decide (j ≠ 0) && decide (j.natAbs.log2 < 9000)
def powOk (a n : Int) : Bool := decide (0 ≤ n) && decide ((Builtin.Int.intBits a : Int) * n ≤ 2 ^ 27)
def fits (n : Nat) : Bool := decide (n ≤ sizeLine)
/-- (by ble: no test of a great bound is unfolded one by one) -/
def i63 (k : Int) : Bool := Nat.ble k.natAbs 9223372036854775807
theorem i63_iff {k : Int} : i63 k = true ↔ k.natAbs ≤ 9223372036854775807 := by unfold i63; rw [Nat.ble_eq]
theorem i63_lo {k : Int} (h : i63 k = true) : -(2 ^ 63) ≤ k := by have := i63_iff.mp h; omega
theorem i63_hi {k : Int} (h : i63 k = true) : k < 2 ^ 63 := by have := i63_iff.mp h; omega
def ite? {α : Type} (b : Bool) (x : α) : Option α := match b with
  | true => some x
  | false => none
def catL (xs ys : List D) : Option (List D) := ite? (fits (xs.length + ys.length)) (xs ++ ys)
def repL (xs : List D) (k : Int) : Option (List D) := ite? (i63 k && fits (xs.length * k.toNat)) (List.replicate k.toNat xs).flatten
def binD (o : Operator) (μ : Mu) (a b : D) : Option D := match o, a, b with
  | .Add, .int i, .int j => some (.int (i + j))
  | .Add, .str x, .str y => ite? (fits (x.length + y.length)) (.str (x ++ y))
  | .Sub, .int i, .int j => some (.int (i - j))
  | .Mult, .int i, .int j => ite? (mulOk i j) (.int (i * j))
  | .FloorDiv, .int i, .int j => ite? (divOk j) (.int (i.fdiv j))
  | .Mod, .int i, .int j => ite? (decide (j ≠ 0)) (.int (i.fmod j))
  | .Pow, .int i, .int j => ite? (powOk i j) (.int (i ^ j.toNat))
  | .Add, a, b => match asM μ a, asM μ b with
    | some xs, some ys => (catL xs ys).map .lst
    | _, _ => none
  | .Mult, a, .int k => match asM μ a with
    | some xs => (repL xs k).map .lst
    | none => none
  | _, _, _ => none
def cmpD (o : CmpOp) (μ : Mu) (a b : D) : Option Bool := match o, a, b with
  | .Lt, .int i, .int j => some (decide (i < j))
  | .LtE, .int i, .int j => some (decide (i ≤ j))
  | .Gt, .int i, .int j => some (decide (j < i))
  | .GtE, .int i, .int j => some (decide (j ≤ i))
  | .Eq, a, b => eqD μ a b
  | .NotEq, a, b => (eqD μ a b).map not
  | .Is, a, .non => some (isNon a)
  | .IsNot, a, .non => some (!isNon a)
  | .In, .str x, .str z => match x.cps.toList with
    | [c] => some (decide (c ∈ z.cps.toList))
    | _ => none
  | .NotIn, .str x, .str z => match x.cps.toList with
    | [c] => some (!decide (c ∈ z.cps.toList))
    | _ => none
  | .In, a, b => match toPy μ a, toPy μ b with
    | some x, some (.list ys) => ite? (SeqAt.shaped x && SeqAt.shaped (.list ys)) (ys.any fun z => PyData.eqv z x)
    | _, _ => none
  | .NotIn, a, b => match toPy μ a, toPy μ b with
    | some x, some (.list ys) => ite? (SeqAt.shaped x && SeqAt.shaped (.list ys)) (!ys.any fun z => PyData.eqv z x)
    | _, _ => none
  | _, _, _ => none
def strAt (x : Str) (i : Int) : Option D := ite? (fits x.length) () |>.bind fun _ => (atI x.cps.toList i).map fun c => .str ⟨#[c]⟩
def idxD (μ : Mu) (a i : D) : Option D := match a, i with
  | .tup xs, .int k => atI xs k
  | .str x, .int k => strAt x k
  | a, .int k => (asL μ a).bind fun xs => atI xs k
  | _, _ => none
def cutD {α : Type} (xs : List α) (lo hi : Option Int) : List α := (xs.drop (HT.sIx xs.length 0 lo)).take (HT.sIx xs.length xs.length hi - HT.sIx xs.length 0 lo)
def partD : Option D → Option (Option Int)
  | none => some none
  | some (.int i) => some (some i)
  | _ => none
def slcD (μ : Mu) (a : D) (lo hi : Option Int) : Option D := match a with
  | .str x => ite? (fits x.length) (.str (cutS x lo hi))
  | .tup xs => ite? (!(decide (HT.sIx xs.length 0 lo = 0) && decide (HT.sIx xs.length xs.length hi = xs.length))) (.tup (cutD xs lo hi))
  | a => (asL μ a).map fun xs => .lst (cutD xs lo hi)
def intsD : List D → Option (List Int)
  | [] => some []
  | .int i :: r => (intsD r).map fun l => i :: l
  | _ => none
def strsD : List D → Option (List Str)
  | [] => some []
  | .str i :: r => (strsD r).map fun l => i :: l
  | _ => none
def blsD : List D → Option (List Bool)
  | [] => some []
  | .bl i :: r => (blsD r).map fun l => i :: l
  | _ => none
def minI : Int → List Int → Int
  | m, [] => m
  | m, x :: r => minI (if x < m then x else m) r
def maxI : Int → List Int → Int
  | m, [] => m
  | m, x :: r => maxI (if m < x then x else m) r
inductive Ty where
  | int | bool | str | list | tuple
def Ty.is : Ty → Mu → D → Bool
  | .int, _, .int _ => true
  | .int, _, .bl _ => true
  | .bool, _, .bl _ => true
  | .str, _, .str _ => true
  | .list, μ, d => (asM μ d).isSome
  | .tuple, _, .tup _ => true
  | _, _, _ => false
/-- what isinstance may be asked of (no instances of own classes here) -/
def Ty.ok (μ : Mu) : D → Bool
  | .obj _ _ => false
  | .scr _ => false
  | .loc n => (asM μ (.loc n)).isSome
  | _ => true
/-! sorting -/
def ins {α : Type} (le : α → α → Bool) (x : α) : List α → List α
  | [] => [x]
  | y :: ys => if le x y then x :: y :: ys else y :: ins le x ys
def isrt {α : Type} (le : α → α → Bool) : List α → List α
  | [] => []
  | x :: xs => ins le x (isrt le xs)
def leI (i j : Int) : Bool := decide (i ≤ j)
def leP (p q : Int × Int) : Bool := decide (p.1 < q.1) || (decide (p.1 = q.1) && decide (p.2 ≤ q.2))
def leS (x y : Str) : Bool := !ltCps y.cps.toList x.cps.toList
def prsD : List D → Option (List (Int × Int))
  | [] => some []
  | .tup [.int i, .int j] :: r => (prsD r).map fun l => (i, j) :: l
  | _ => none
def eP (p : Int × Int) : D := .tup [.int p.1, .int p.2]
def sortD (xs : List D) : Option (List D) := match intsD xs with
  | some l => some ((isrt leI l).map .int)
  | none => match prsD xs with
    | some l => some ((isrt leP l).map eP)
    | none => match strsD xs with
      | some l => ite? (decide (l.length < 64)) ((isrt leS l).map .str)
      | none => none
/-- built-in functions of values -/
inductive Bi where
  | len | int | sum | min | max | max2 | min2 | abs | str | isi (t : Ty) | all | any | sorted | tuple
def lenD (μ : Mu) : D → Option Nat
  | .str x => ite? (fits x.length) x.length
  | .tup xs => some xs.length
  | a => (asL μ a).map List.length
def biD (b : Bi) (μ : Mu) (as : List D) : Option D := match b, as with
  | .len, [a] => (lenD μ a).map fun n => .int n
  | .int, [.int i] => some (.int i)
  | .int, [.bl b] => some (.int (if b then 1 else 0))
  | .sum, [a] => ((asL μ a).bind intsD).map fun l => .int l.sum
  | .min, [a] => match (asL μ a).bind intsD with
    | some (m :: r) => some (.int (minI m r))
    | _ => none
  | .max, [a] => match (asL μ a).bind intsD with
    | some (m :: r) => some (.int (maxI m r))
    | _ => none
  | .max2, [.int i, .int j] => some (.int (if j > i then j else i))
  | .min2, [.int i, .int j] => some (.int (if j < i then j else i))
  | .abs, [.int i] => some (.int (if i < 0 then -i else i))
  | .str, [.int i] => ite? (decide (i.natAbs.log2 < 1920)) (.str (toString i : String))
  | .str, [.str x] => some (.str x)
  | .isi t, [a] => ite? (Ty.ok μ a) (.bl (t.is μ a))
  | .all, [a] => ((asL μ a).bind blsD).map fun l => .bl (l.all id)
  | .any, [a] => ((asL μ a).bind blsD).map fun l => .bl (l.any id)
  | .sorted, [a] => ((asL μ a).bind sortD).map .lst
  | .tuple, [a] => (asL μ a).map .tup
  | _, _ => none
/-- methods of built-in types that change nothing -/
inductive Bm where
  | join | bits | index
/-- the receiver is of the type that has the method -/
def bmTy : Bm → Mu → D → Bool
  | .join, _, .str _ => true
  | .bits, _, .int _ => true
  | .index, μ, a => (asL μ a).isSome
  | _, _, _ => false
/-- the place of an int -/
def ixInt (x : Int) : List Int → Option Nat
  | [] => none
  | y :: r => if y = x then some 0 else (ixInt x r).map (· + 1)
def joinOk (a : Str) (ys : List Str) : Bool := decide ((ys.map (·.length)).sum + ys.length * a.length ≤ 16777216)
def bmD (b : Bm) (μ : Mu) (a : D) (as : List D) : Option D := match b, a, as with
  | .join, .str x, [l] => ((asL μ l).bind strsD).bind fun ys => ite? (joinOk x ys) (.str (Txt.join x ys))
  | .bits, .int i, [] => some (.int (Builtin.Int.intBits i : Nat))
  | .index, a, [.int x] => ((asL μ a).bind intsD).bind fun l => (ixInt x l).map fun n => .int (n : Nat)
  | _, _, _ => none

/-! ### the language -/
mutual
/-- expressions; own slots are read only where nothing keeps them -/
inductive Ex where
  | var (i : Nat) | cst (d : D) | gbl (x : Str) (d : D)
  | bin (o : Operator) (a b : Ex) | neg (a : Ex) | not (a : Ex) | bop (o : BoolOp) (es : Exs)
  | cmp (o : CmpOp) (a b : Ex) | chn (o p : CmpOp) (a b c : Ex) | ite (t : Te) (a b : Ex)
  | tup (es : Exs) | new (n : Nw) | cel (n : Nw)
  | idx (a i : Ex) | slc (a : Ex) (lo hi : Oe) | att (a : Ex) (f : Nat)
  | call (f : Nat) (es : Exs) | meth (a : Ex) (m : Nat) (es : Exs) | make (c : Nat) (es : Exs)
  | blt (b : Bi) (es : Exs) | bmt (b : Bm) (a : Ex) (es : Exs)
  | rev (a : Ex) | lrg (es : Exs) | is2 (t u : Ty) (e : Ex)
inductive Exs where
  | nil | cons (e : Ex) (es : Exs)
/-- tests -/
inductive Te where
  | val (e : Ex) | not (t : Te) | bop (o : BoolOp) (ts : Tes)
inductive Tes where
  | nil | cons (t : Te) (ts : Tes)
/-- expressions that make a new list -/
inductive Nw where
  | dis (es : Exs) | cat (a b : Ex) | rep (a b : Ex) | slc (a : Ex) (lo hi : Oe) | lof (a : Ex)
  | cmp (ws : List Nat) (elt : Ex) (t : Tg) (w : Wk) (c : Oe)
inductive Oe where
  | no | so (e : Ex)
  | te (t : Te)
/-- what a loop walks -/
inductive Wk where
  | lst (e : Ex) | tup (e : Ex) | str (e : Ex) | rng (es : Exs) | enu (e : Ex) | zip (a b : Ex)
/-- targets of stores -/
inductive Tg where
  | nam (i : Nat) | tup (ts : Tgs)
inductive Tgs where
  | nil | cons (t : Tg) (ts : Tgs)
end

def Exs.isNil : Exs → Bool
  | .nil => true
  | .cons _ _ => false
def Slot.set (ρ : Rho) (i : Nat) (s : Slot) : Option Rho := if i < ρ.length then some (List.set ρ i s) else none
mutual
def Tg.put : Tg → D → Rho → Option Rho
  | .nam i, d, ρ => Slot.set ρ i (.val d)
  | .tup ts, .tup ds, ρ => ts.put ds ρ
  | .tup _, _, _ => none
def Tgs.put : Tgs → List D → Rho → Option Rho
  | .nil, [], ρ => some ρ
  | .cons t ts, d :: ds, ρ => match t.put d ρ with
    | some ρ' => ts.put ds ρ'
    | none => none
  | _, _, _ => none
end
mutual
def Tg.slots : Tg → List Nat
  | .nam i => [i]
  | .tup ts => ts.slots
def Tgs.slots : Tgs → List Nat
  | .nil => []
  | .cons t ts => t.slots ++ ts.slots
end
def wipeR (ρ : Rho) : List Nat → Rho
  | [] => ρ
  | v :: vs => (wipeR ρ vs).set v .emp
/-- a comprehension's turns -/
def compGo (put : D → Rho → Option Rho) (tst : Rho → Mu → R Bool) (elt : Rho → Mu → R D) (ρ : Rho) : List D → List D → Mu → R (List D)
  | [], acc, μ => .ok acc μ
  | x :: xs, acc, μ => match put x ρ with
    | none => .bad
    | some ρ1 => (tst ρ1 μ).noex.bind fun b μ1 => match b with
      | true => (elt ρ1 μ1).noex.bind fun d μ2 => if fits (acc.length + 1) then compGo put tst elt ρ xs (acc ++ [d]) μ2 else .bad
      | false => compGo put tst elt ρ xs acc μ1
def strItems (x : Str) : List D := x.cps.toList.map fun c => .str ⟨#[c]⟩
def listD : D → Option (List D)
  | .lst xs => some xs
  | _ => none
def tupD : D → Option (List D)
  | .tup xs => some xs
  | _ => none
def signD : D → Option (List D)
  | .str x => some (strItems x)
  | _ => none
def rngOk (i : Int) : Bool := Nat.ble i.natAbs 4611686018427387903
theorem rngOk_ble {k : Int} : rngOk k = true ↔ k.natAbs ≤ 4611686018427387903 := by unfold rngOk; rw [Nat.ble_eq]
def rngItems (lo : Int) (n : Nat) : List D := (List.range n).map fun (k : Nat) => D.int (lo + (k : Int))
def dwnItems (hi : Int) (n : Nat) : List D := (List.range n).map fun (k : Nat) => D.int (hi + (k : Int) * -1)
def rngD : List D → Option (List D)
  | [.int j] => ite? (rngOk j) (rngItems 0 j.toNat)
  | [.int i, .int j] => ite? (rngOk i && rngOk j) (rngItems i (j - i).toNat)
  | [.int i, .int j, .int c] => ite? (decide (c = -1) && rngOk i && rngOk j) (dwnItems i (i - j).toNat)
  | _ => none
def zipItems : List D → List D → List D
  | x :: xs, y :: ys => .tup [x, y] :: zipItems xs ys
  | _, _ => []
/-- list(range(..)) -/
def lrgD (ds : List D) : Option (List D) := match ds with
  | [.int j] => ite? (rngOk j && fits j.toNat) (rngItems 0 j.toNat)
  | [.int i, .int j] => ite? (rngOk i && rngOk j && fits (j - i).toNat) (rngItems i (j - i).toNat)
  | _ => none
def enuItems (k : Nat) : List D → List D
  | [] => []
  | x :: xs => .tup [.int k, x] :: enuItems (k + 1) xs
def lookF (f : Nat) : List (Nat × D) → Option D
  | [] => none
  | (g, d) :: r => if f = g then some d else lookF f r
def putF (f : Nat) (d : D) : List (Nat × D) → List (Nat × D)
  | [] => [(f, d)]
  | (g, e) :: r => if f = g then (f, d) :: r else (g, e) :: putF f d r
def attD (cs : List CI) (f : Nat) (μ : Mu) (x : D) : Option D := match asO cs μ x with
  | some (c, fs) => match (fldOf cs c).contains f with
    | true => lookF f fs
    | false => none
  | none => none
/-- a field of a cell is stored -/
def storeD (cs : List CI) (f : Nat) (d : D) (μ : Mu) (x : D) : Option Mu := match x with
  | .loc n => match μ[n]? with
    | some (.obj c fs) => ite? ((fldOf cs c).contains f && decide (fs.length < 1000)) (μ.set n (.obj c (putF f d fs)))
    | _ => none
  | _ => none
def varD (i : Nat) (m : Bool) (ρ : Rho) (μ : Mu) : R D := match ρ[i]? with
  | some (.val d) => .ok d μ
  | some (.own xs) => match m with
    | true => .ok (.lst xs) μ
    | false => .bad
  | _ => .bad
abbrev Phi := Nat → List D → Mu → R D
def methOf (cs : List CI) (c m : Nat) : Option Nat := match cs[c]? with
  | some ci => (ci.mts.find? fun p => p.1 == m).map (·.2)
  | none => none
def makeD (cs : List CI) (Φ : Phi) (c : Nat) (ds : List D) (μ : Mu) : R D := match cs[c]? with
  | none => .bad
  | some ci => match ci.frz with
    | true => if ds.length = ci.fld.length then .ok (.obj c ds) μ else .bad
    | false => (Φ ci.ini (.loc μ.length :: ds) (μ ++ [.obj c []])).bind fun d μ' => match d with
      | .non => .ok (.loc μ.length) μ'
      | _ => .bad
def methF (cs : List CI) (m : Nat) (μ : Mu) (o : D) : Option Nat := match asO cs μ o with
  | some (c, fs) => match methOf cs c m, lookF m fs with
    | some f, none => some f
    | _, _ => none
  | none => none
section
variable (cs : List CI) (Φ : Phi)
mutual
def denE : Ex → Bool → Rho → Mu → R D
  | .var i, m, ρ, μ => varD i m ρ μ
  | .cst d, _, _, μ => .ok d μ
  | .gbl _ d, _, _, μ => .ok d μ
  | .bin o a b, _, ρ, μ => (denE a true ρ μ).bind fun x μ => (denE b true ρ μ).bind fun y μ => .opt (binD o μ x y) μ
  | .neg a, _, ρ, μ => (denE a true ρ μ).bind fun x μ => match x with
    | .int i => .ok (.int (-i)) μ
    | _ => .bad
  | .not a, _, ρ, μ => (denE a true ρ μ).bind fun x μ => .opt ((truD μ x).map fun k => .bl (!k)) μ
  | .bop o es, m, ρ, μ => denBop o es m ρ μ
  | .cmp o a b, _, ρ, μ => (denE a true ρ μ).bind fun x μ => (denE b true ρ μ).bind fun y μ => .opt ((cmpD o μ x y).map .bl) μ
  | .chn o p a b c, _, ρ, μ => (denE a true ρ μ).bind fun x μ => (denE b true ρ μ).bind fun y μ => match cmpD o μ x y with
    | some true => (denE c true ρ μ).bind fun z μ => .opt ((cmpD p μ y z).map .bl) μ
    | some false => .ok (.bl false) μ
    | none => .bad
  | .ite t a b, m, ρ, μ => (denT t ρ μ).bind fun k μ => match k with
    | true => denE a m ρ μ
    | false => denE b m ρ μ
  | .tup es, _, ρ, μ => (denEs es false ρ μ).bind fun ds μ => if fits ds.length then .ok (.tup ds) μ else .bad
  | .new n, _, ρ, μ => (denN n ρ μ).bind fun ds μ => .ok (.lst ds) μ
  | .cel n, _, ρ, μ => (denN n ρ μ).bind fun ds μ => .ok (.loc μ.length) (μ ++ [.lst ds])
  | .idx a i, _, ρ, μ => (denE a true ρ μ).bind fun x μ => (denE i true ρ μ).bind fun y μ => .opt (idxD μ x y) μ
  | .slc a lo hi, _, ρ, μ => (denE a true ρ μ).bind fun x μ => (denO lo ρ μ).bind fun l μ => (denO hi ρ μ).bind fun h μ => .opt (slcD μ x l h) μ
  | .att a f, _, ρ, μ => (denE a true ρ μ).bind fun x μ => .opt (attD cs f μ x) μ
  | .call f es, _, ρ, μ => (denEs es false ρ μ).bind fun ds μ => Φ f ds μ
  | .meth a m es, _, ρ, μ => (denE a false ρ μ).bind fun x μ => match methF cs m μ x with
    | some f => (denEs es false ρ μ).bind fun ds μ => Φ f (x :: ds) μ
    | none => .bad
  | .make c es, _, ρ, μ => (denEs es false ρ μ).bind fun ds μ => makeD cs Φ c ds μ
  | .blt b es, _, ρ, μ => (denEs es true ρ μ).bind fun ds μ => .opt (biD b μ ds) μ
  | .bmt b a es, _, ρ, μ => (denE a true ρ μ).bind fun x μ => match bmTy b μ x with
    | true => (denEs es true ρ μ).bind fun ds μ => .opt (bmD b μ x ds) μ
    | false => .bad
  | .rev a, _, ρ, μ => (denE a true ρ μ).bind fun x μ => .opt ((asL μ x).map fun xs => .lst xs.reverse) μ
  | .lrg es, _, ρ, μ => (denEs es true ρ μ).bind fun ds μ => .opt ((lrgD ds).map .lst) μ
  | .is2 t u e, _, ρ, μ => (denE e true ρ μ).bind fun x μ => .opt (ite? (Ty.ok μ x) (.bl (t.is μ x || u.is μ x))) μ
def denEs : Exs → Bool → Rho → Mu → R (List D)
  | .nil, _, _, μ => .ok [] μ
  | .cons e es, m, ρ, μ => (denE e m ρ μ).bind fun d μ => (denEs es m ρ μ).bind fun ds μ => .ok (d :: ds) μ
def denT : Te → Rho → Mu → R Bool
  | .val e, ρ, μ => (denE e true ρ μ).bind fun x μ => .opt (truD μ x) μ
  | .not t, ρ, μ => (denT t ρ μ).bind fun k μ => .ok (!k) μ
  | .bop o ts, ρ, μ => denTs o ts ρ μ
def denTs : BoolOp → Tes → Rho → Mu → R Bool
  | o, .nil, _, μ => .ok (o == .And) μ
  | o, .cons t ts, ρ, μ => (denT t ρ μ).bind fun k μ => match o, k with
    | .And, false => .ok false μ
    | .Or, true => .ok true μ
    | _, _ => denTs o ts ρ μ
def denBop : BoolOp → Exs → Bool → Rho → Mu → R D
  | _, .nil, _, _, _ => .bad
  | o, .cons e es, m, ρ, μ => (denE e m ρ μ).bind fun x μ => match es.isNil with
    | true => .ok x μ
    | false => match o, truD μ x with
      | .And, some false => .ok x μ
      | .Or, some true => .ok x μ
      | _, some _ => denBop o es m ρ μ
      | _, none => .bad
def denN : Nw → Rho → Mu → R (List D)
  | .dis es, ρ, μ => (denEs es false ρ μ).bind fun ds μ => if fits ds.length then .ok ds μ else .bad
  | .cat a b, ρ, μ => (denE a true ρ μ).bind fun x μ => (denE b true ρ μ).bind fun y μ => .opt ((asM μ x).bind fun xs => (asM μ y).bind fun ys => catL xs ys) μ
  | .rep a b, ρ, μ => (denE a true ρ μ).bind fun x μ => (denE b true ρ μ).bind fun y μ => .opt ((asM μ x).bind fun xs => match y with
    | .int k => repL xs k
    | _ => none) μ
  | .slc a lo hi, ρ, μ => (denE a true ρ μ).bind fun x μ => (denO lo ρ μ).bind fun l μ => (denO hi ρ μ).bind fun h μ => .opt ((asL μ x).map fun xs => cutD xs l h) μ
  | .lof a, ρ, μ => (denE a true ρ μ).bind fun x μ => .opt (match x with
    | .tup xs => some xs
    | x => asL μ x) μ
  | .cmp ws elt t w c, ρ, μ => (denW w true ρ μ).bind fun xs μ => compGo t.put (fun ρ μ => denC c ρ μ) (fun ρ μ => denE elt false ρ μ) (wipeR ρ ws) xs [] μ
def denO : Oe → Rho → Mu → R (Option Int)
  | .no, _, μ => .ok none μ
  | .so e, ρ, μ => (denE e true ρ μ).bind fun x μ => match x with
    | .int i => .ok (some i) μ
    | _ => .bad
  | .te _, _, _ => .bad
def denC : Oe → Rho → Mu → R Bool
  | .no, _, μ => .ok true μ
  | .te t, ρ, μ => denT t ρ μ
  | .so _, _, _ => .bad
def denW : Wk → Bool → Rho → Mu → R (List D)
  | .lst e, m, ρ, μ => (denE e m ρ μ).bind fun x μ => .opt (listD x) μ
  | .tup e, m, ρ, μ => (denE e m ρ μ).bind fun x μ => .opt (tupD x) μ
  | .str e, m, ρ, μ => (denE e m ρ μ).bind fun x μ => .opt (signD x) μ
  | .rng es, _, ρ, μ => (denEs es true ρ μ).bind fun ds μ => .opt (rngD ds) μ
  | .enu e, m, ρ, μ => (denE e m ρ μ).bind fun x μ => .opt ((listD x).map (enuItems 0)) μ
  | .zip a b, _, ρ, μ => (denE a false ρ μ).bind fun x μ => (denE b false ρ μ).bind fun y μ => .opt ((listD x).bind fun xs => (listD y).map fun ys => zipItems xs ys) μ
end
end
/-! ### statements -/
/-- where a list is changed: an own slot, or a cell -/
inductive Pl where
  | own (i : Nat) | ref (e : Ex)
/-- what a name is given: a value, or a new list of its own -/
inductive Rh where
  | e (e : Ex) | n (n : Nw)
mutual
inductive Sm where
  | nam (i : Nat) (r : Rh) | par (i j : Nat) (a b : Rh) | unp (t : Tg) (e : Ex)
  | att (a : Ex) (f : Nat) (e : Ex) | sub (p : Pl) (i e : Ex) | ups (p : Pl) (i : Ex) (q : Pl) (j : Ex) (e : Ex)
  | app (p : Pl) (e : Ex) | pop (t : Tg) (p : Pl) (i : Oe) | apo (j : Nat) (p : Pl) (i : Oe) | apt (a : Ex) (f : Nat) (p : Pl) (i : Oe) | rpo (p : Pl) (i : Oe)
  | exp (e : Ex) | ife (t : Te) (a b : Bk) | whl (n : Nat) (t : Te) (b : Bk) | for (t : Tg) (w : Wk) (b : Bk)
  | ret (e : Ex) | retN | brk | cnt | pas | nev | frz (i : Nat)
inductive Bk where
  | nil | cons (s : Sm) (b : Bk)
end
def getOwn (ρ : Rho) (i : Nat) : Option (List D) := match ρ[i]? with
  | some (.own xs) => some xs
  | _ => none
section
variable (cs : List CI) (Φ : Phi)
def denR (r : Rh) (ρ : Rho) (μ : Mu) : R Slot := match r with
  | .e e => (denE cs Φ e false ρ μ).bind fun d μ => .ok (.val d) μ
  | .n n => (denN cs Φ n ρ μ).bind fun ds μ => .ok (.own ds) μ
/-- the list at a place -/
def Pl.get (μ : Mu) : D → Option (Nat × List D)
  | .loc n => match μ[n]? with
    | some (.lst xs) => some (n, xs)
    | _ => none
  | _ => none
/-- a list is changed at a place: k is handed it as it stands behind the arguments; what comes out, the slots -/
def chgR {α : Type} (p : Pl) (ρ : Rho) (μ0 : Mu) (arg : Mu → R α) (k : List D → α → Option (List D)) (res : List D → α → Option D) : R (D × Rho) := match p with
  | .own i => match getOwn ρ i with
    | none => .bad
    | some xs => (arg μ0).bind fun a μ => match k xs a, res xs a with
      | some ys, some d => .ok (d, List.set ρ i (.own ys)) μ
      | _, _ => .bad
  | .ref e => (denE cs Φ e false ρ μ0).bind fun x μ1 => match Pl.get μ1 x with
    | none => .bad
    | some _ => (arg μ1).bind fun a μ => match Pl.get μ x with
      | some (n, xs) => match k xs a, res xs a with
        | some ys, some d => .ok (d, ρ) (μ.set n (.lst ys))
        | _, _ => .bad
      | none => .bad
def nonK {α : Type} (_ : List D) (_ : α) : Option D := some .non
def appK (xs : List D) (d : D) : Option (List D) := ite? (decide (xs.length < sizeLine)) (xs ++ [d])
def setK (xs : List D) (a : D × D) : Option (List D) := match a.2 with
  | .int k => (ixN xs.length k).map fun j => xs.set j a.1
  | _ => none
def popIx (xs : List D) : Option Int → Option Nat
  | none => ite? (!xs.isEmpty) (xs.length - 1)
  | some i => if i63 i then seqIndex? i xs.length else none
def popK (xs : List D) (a : Option Int) : Option (List D) := (popIx xs a).map fun k => xs.eraseIdx k
def popV (xs : List D) (a : Option Int) : Option D := (popIx xs a).bind fun k => xs[k]?
def whlGo (t : Rho → Mu → R Bool) (b : Rho → Mu → RS) : Nat → Rho → Mu → RS
  | 0, _, _ => .bad
  | n + 1, ρ, μ => RS.bindR ρ (t ρ μ) fun k μ => match k with
    | false => .nx ρ μ
    | true => match b ρ μ with
      | .nx ρ μ => whlGo t b n ρ μ
      | .ct ρ μ => whlGo t b n ρ μ
      | .bk ρ μ => .nx ρ μ
      | r => r
def forGo (put : D → Rho → Option Rho) (b : Rho → Mu → RS) : List D → Rho → Mu → RS
  | [], ρ, μ => .nx ρ μ
  | x :: xs, ρ, μ => match put x ρ with
    | none => .bad
    | some ρ => match b ρ μ with
      | .nx ρ μ => forGo put b xs ρ μ
      | .ct ρ μ => forGo put b xs ρ μ
      | .bk ρ μ => .nx ρ μ
      | r => r
mutual
def denS : Sm → Rho → Mu → RS
  | .nam i r, ρ, μ => RS.bindR ρ (denR cs Φ r ρ μ) fun s μ => match Slot.set ρ i s with
    | some ρ => .nx ρ μ
    | none => .bad
  | .par i j a b, ρ, μ => RS.bindR ρ (denR cs Φ a ρ μ) fun s μ => RS.bindR ρ (denR cs Φ b ρ μ) fun s' μ => match (Slot.set ρ i s).bind fun ρ => Slot.set ρ j s' with
    | some ρ => .nx ρ μ
    | none => .bad
  | .unp t e, ρ, μ => RS.bindR ρ (denE cs Φ e false ρ μ) fun d μ => match t.put d ρ with
    | some ρ => .nx ρ μ
    | none => .bad
  | .att a f e, ρ, μ => RS.bindR ρ (denE cs Φ e false ρ μ) fun d μ => RS.bindR ρ (denE cs Φ a false ρ μ) fun x μ => match storeD cs f d μ x with
    | some μ => .nx ρ μ
    | none => .bad
  | .sub p i e, ρ, μ => RS.bindR ρ (denE cs Φ e false ρ μ) fun d μ => RS.bindR ρ (chgR cs Φ p ρ μ (fun μ => (denE cs Φ i true ρ μ).bind fun y μ => .ok (d, y) μ) setK nonK) fun r μ => .nx r.2 μ
  | .ups p i q j e, ρ, μ => RS.bindR ρ (denE cs Φ e false ρ μ) fun d μ => match d with
    | .tup [d1, d2] => RS.bindR ρ (chgR cs Φ p ρ μ (fun μ => (denE cs Φ i true ρ μ).bind fun y μ => .ok (d1, y) μ) setK nonK) fun r μ => RS.bindR r.2 (chgR cs Φ q r.2 μ (fun μ => (denE cs Φ j true r.2 μ).bind fun y μ => .ok (d2, y) μ) setK nonK) fun r μ => .nx r.2 μ
    | _ => .bad
  | .app p e, ρ, μ => RS.bindR ρ (chgR cs Φ p ρ μ (fun μ => denE cs Φ e false ρ μ) appK nonK) fun r μ => .nx r.2 μ
  | .pop t p i, ρ, μ => RS.bindR ρ (chgR cs Φ p ρ μ (fun μ => denO cs Φ i ρ μ) popK popV) fun r μ => match t.put r.1 r.2 with
    | some ρ => .nx ρ μ
    | none => .bad
  | .apo j p i, ρ, μ => match getOwn ρ j with
    | none => .bad
    | some _ => RS.bindR ρ (chgR cs Φ p ρ μ (fun μ => denO cs Φ i ρ μ) popK popV) fun r μ => match getOwn r.2 j with
      | some zs => match appK zs r.1 with
        | some zs => .nx (List.set r.2 j (.own zs)) μ
        | none => .bad
      | none => .bad
  | .apt a f p i, ρ, μ => RS.bindR ρ (chgR cs Φ p ρ μ (fun μ => denO cs Φ i ρ μ) popK popV) fun r μ => RS.bindR r.2 (denE cs Φ a false r.2 μ) fun x μ => match storeD cs f r.1 μ x with
    | some μ => .nx r.2 μ
    | none => .bad
  | .rpo p i, ρ, μ => RS.bindR ρ (chgR cs Φ p ρ μ (fun μ => denO cs Φ i ρ μ) popK popV) fun r μ => .rt r.1 μ
  | .exp e, ρ, μ => RS.bindR ρ (denE cs Φ e true ρ μ) fun _ μ => .nx ρ μ
  | .ife t a b, ρ, μ => RS.bindR ρ (denT cs Φ t ρ μ) fun k μ => match k with
    | true => denB a ρ μ
    | false => denB b ρ μ
  | .whl n t b, ρ, μ => whlGo (fun ρ μ => denT cs Φ t ρ μ) (fun ρ μ => denB b ρ μ) n ρ μ
  | .for t w b, ρ, μ => RS.bindR ρ (denW cs Φ w false ρ μ) fun xs μ => forGo t.put (fun ρ μ => denB b ρ μ) xs ρ μ
  | .ret e, ρ, μ => RS.bindR ρ (denE cs Φ e false ρ μ) fun d μ => .rt d μ
  | .retN, _, μ => .rt .non μ
  | .brk, ρ, μ => .bk ρ μ
  | .cnt, ρ, μ => .ct ρ μ
  | .pas, ρ, μ => .nx ρ μ
  | .nev, _, _ => .bad
  | .frz i, ρ, μ => match getOwn ρ i with
    | some xs => .nx (List.set ρ i (.val (.lst xs))) μ
    | none => .bad
def denB : Bk → Rho → Mu → RS
  | .nil, ρ, μ => .nx ρ μ
  | .cons s b, ρ, μ => (denS s ρ μ).seq fun ρ μ => denB b ρ μ
end
/-- a def's body, run -/
def runB (b : Bk) (n : Nat) (ds : List D) (μ : Mu) : R D := match denB cs Φ b (ds.map Slot.val ++ List.replicate (n - ds.length) Slot.emp) μ with
  | .nx _ μ => .ok .non μ
  | .rt d μ => .ok d μ
  | .ex c a _ μ => .ex c a μ
  | _ => .bad
end
/-- a def: its body, how many names (parameters first), how many parameters -/
structure FB where
  ir : Bk
  nn : Nat
  np : Nat
/-- what the defs do, calls at most n deep -/
def phi (cs : List CI) (fs : List FB) : Nat → Phi
  | 0, _, _, _ => .bad
  | n + 1, f, ds, μ => match fs[f]? with
    | some fb => if ds.length = fb.np then runB cs (phi cs fs n) fb.ir fb.nn ds μ else .bad
    | none => .bad
end Z

/-! Z2: how data lies in the heap; worlds, steps. -/
namespace Z
open PySem PySem.Spec PyProof.Rows L2

/-! ### what is known of the program -/
/-- a def as the head tells it, its names by slot, its IR -/
structure FI where
  d : He.DefD
  N : List Str
  ps : List Str
  ir : Bk
structure Gi where
  cs : List CI
  nms : List Str
  fns : List FI
def Gi.nm (G : Gi) (i : Nat) : Str := match G.nms[i]? with
  | some x => x
  | none => ""
def clsN (G : Gi) (c : Nat) : Str := match G.cs[c]? with
  | some ci => G.nm ci.nm
  | none => ""
def clsA (K : PySem.W.Frag) (G : Gi) (c : Nat) : Addr := He.ga K (clsN G c)

/-- the world: what never changes any more, where the cells stand -/
structure Wd where
  F : Hp
  α : List Addr
mutual
def Rep (K : PySem.W.Frag) (G : Gi) (w : Wd) : D → V → Prop
  | .non, v => v = .non
  | .bl b, v => v = .bl b
  | .int i, v => v = .int i
  | .str x, v => v = .str x
  | .lst ds, v => ∃ a vs, v = .ref a ∧ w.F a = some (.lst vs) ∧ RepL K G w ds vs
  | .tup ds, v => ∃ a vs, v = .ref a ∧ w.F a = some (.tup vs) ∧ RepL K G w ds vs
  | .loc n, v => ∃ a, v = .ref a ∧ w.α[n]? = some a
  | .obj c ds, v => ∃ a dx fs, v = .ref a ∧ w.F a = some (.ins (clsA K G c) dx fs) ∧ fs.map (·.1) = (fldOf G.cs c).map G.nm ∧ RepL K G w ds (fs.map (·.2))
  | .scr ns, v => ∃ a, v = .ref a ∧ SqL K w.F a (ns.map V.int)
def RepL (K : PySem.W.Frag) (G : Gi) (w : Wd) : List D → List V → Prop
  | [], vs => vs = []
  | d :: ds, vs => ∃ v r, vs = v :: r ∧ Rep K G w d v ∧ RepL K G w ds r
end
/-- fields of an instance that may change -/
def RepF (K : PySem.W.Frag) (G : Gi) (w : Wd) : List (Nat × D) → List (Str × V) → Prop
  | [], fs => fs = []
  | p :: r, fs => ∃ v q, fs = (G.nm p.1, v) :: q ∧ Rep K G w p.2 v ∧ RepF K G w r q
def CelAt (K : PySem.W.Frag) (G : Gi) (w : Wd) (H : Hp) (a : Addr) : Cell → Prop
  | .lst ds => ∃ vs, H a = some (.lst vs) ∧ RepL K G w ds vs
  | .obj c fs => ∃ dx vs, H a = some (.ins (clsA K G c) dx vs) ∧ RepF K G w fs vs
structure Wd.le (w w' : Wd) : Prop where
  f : ∀ b o, w.F b = some o → w'.F b = some o
  a : ∃ r, w'.α = w.α ++ r
theorem Wd.le.at {w w' : Wd} (h : w.le w') {n : Nat} {a : Addr} (e : w.α[n]? = some a) : w'.α[n]? = some a := by
  obtain ⟨r, hr⟩ := h.a
  rw [hr]
  obtain ⟨hl, _⟩ := List.getElem?_eq_some_iff.mp e
  rw [List.getElem?_append_left hl]
  exact e
theorem Wd.le.refl (w : Wd) : w.le w := ⟨fun _ _ h => h, [], by simp⟩
theorem Wd.le.trans {a b c : Wd} (h : a.le b) (k : b.le c) : a.le c := ⟨fun x o e => k.f x o (h.f x o e), by
  obtain ⟨r, e⟩ := h.a
  obtain ⟨s, e'⟩ := k.a
  exact ⟨r ++ s, by rw [e', e, List.append_assoc]⟩⟩
theorem sqLe {K : PySem.W.Frag} {F F' : Hp} {a : Addr} {xs : List V} (h : ∀ b o, F b = some o → F' b = some o) (q : SqL K F a xs) : SqL K F' a xs := by
  rcases q with (q | ⟨o, q⟩) | q
  · exact .inl (.inl (h _ _ q))
  · exact .inl (.inr ⟨o, h _ _ q⟩)
  · exact .inr q
theorem sqTe {K : PySem.W.Frag} {F F' : Hp} {a : Addr} {xs : List V} (h : ∀ b o, F b = some o → F' b = some o) (q : SqT K F a xs) : SqT K F' a xs := by
  rcases q with (q | ⟨o, q⟩) | q
  · exact .inl (.inl (h _ _ q))
  · exact .inl (.inr ⟨o, h _ _ q⟩)
  · exact .inr q
section
variable {K : PySem.W.Frag} {G : Gi}
mutual
theorem Rep.le {w w' : Wd} (h : w.le w') : ∀ (d : D) {v : V}, Rep K G w d v → Rep K G w' d v
  | .non, _, e => e
  | .bl _, _, e => e
  | .int _, _, e => e
  | .str _, _, e => e
  | .lst ds, _, ⟨a, vs, e, q, r⟩ => ⟨a, vs, e, h.f _ _ q, RepL.le h ds r⟩
  | .tup ds, _, ⟨a, vs, e, q, r⟩ => ⟨a, vs, e, h.f _ _ q, RepL.le h ds r⟩
  | .loc _, _, ⟨a, e, q⟩ => ⟨a, e, h.at q⟩
  | .obj _ ds, _, ⟨a, dx, fs, e, q, n, r⟩ => ⟨a, dx, fs, e, h.f _ _ q, n, RepL.le h ds r⟩
  | .scr _, _, ⟨a, e, q⟩ => ⟨a, e, sqLe h.f q⟩
theorem RepL.le {w w' : Wd} (h : w.le w') : ∀ (ds : List D) {vs : List V}, RepL K G w ds vs → RepL K G w' ds vs
  | [], _, e => e
  | d :: ds, _, ⟨v, r, e, p, q⟩ => ⟨v, r, e, Rep.le h d p, RepL.le h ds q⟩
end
theorem RepF.le {w w' : Wd} (h : w.le w') : ∀ (ds : List (Nat × D)) {vs : List (Str × V)}, RepF K G w ds vs → RepF K G w' ds vs
  | [], _, e => e
  | p :: ds, _, ⟨v, r, e, z, q⟩ => ⟨v, r, e, Rep.le h p.2 z, RepF.le h ds q⟩
theorem RepL.nil {w : Wd} : RepL K G w [] [] := rfl
theorem RepL.cons {w : Wd} {d : D} {v : V} {ds : List D} {vs : List V} (h : Rep K G w d v) (t : RepL K G w ds vs) : RepL K G w (d :: ds) (v :: vs) := ⟨v, vs, rfl, h, t⟩
theorem RepL.length {w : Wd} : ∀ {ds : List D} {vs : List V}, RepL K G w ds vs → vs.length = ds.length
  | [], _, e => by rw [show _ = [] from e]; rfl
  | d :: ds, _, ⟨v, r, e, _, q⟩ => by rw [e, List.length_cons, List.length_cons, RepL.length q]
theorem RepL.append {w : Wd} : ∀ {ds es : List D} {vs us : List V}, RepL K G w ds vs → RepL K G w es us → RepL K G w (ds ++ es) (vs ++ us)
  | [], _, _, _, e, q => by rw [show _ = [] from e]; exact q
  | d :: ds, _, _, _, ⟨v, r, e, p, q⟩, z => by rw [e]; exact ⟨v, r ++ _, rfl, p, RepL.append q z⟩
theorem RepL.get {w : Wd} : ∀ {ds : List D} {vs : List V} {i : Nat} {d : D}, RepL K G w ds vs → ds[i]? = some d → ∃ v, vs[i]? = some v ∧ Rep K G w d v
  | [], _, _, _, _, h => by simp at h
  | d :: ds, _, 0, _, ⟨v, r, e, p, _⟩, h => by
    rw [e]
    rw [List.getElem?_cons_zero] at h
    cases h
    exact ⟨v, rfl, p⟩
  | d :: ds, _, i + 1, _, ⟨v, r, e, _, q⟩, h => by
    rw [e]
    obtain ⟨u, h1, h2⟩ := RepL.get (i := i) q (by simpa using h)
    exact ⟨u, by simpa using h1, h2⟩
theorem RepL.set {w : Wd} {x : D} {y : V} (hx : Rep K G w x y) : ∀ {ds : List D} {vs : List V} (i : Nat), RepL K G w ds vs → RepL K G w (ds.set i x) (vs.set i y)
  | [], _, _, e => by rw [show _ = [] from e]; exact rfl
  | d :: ds, _, 0, ⟨v, r, e, _, q⟩ => by rw [e]; exact ⟨y, r, rfl, hx, q⟩
  | d :: ds, _, i + 1, ⟨v, r, e, p, q⟩ => by rw [e]; exact ⟨v, r.set i y, rfl, p, RepL.set hx i q⟩
theorem RepL.take {w : Wd} : ∀ {ds : List D} {vs : List V} (n : Nat), RepL K G w ds vs → RepL K G w (ds.take n) (vs.take n)
  | [], _, _, e => by rw [show _ = [] from e]; simp; exact rfl
  | d :: ds, _, 0, ⟨v, r, e, _, q⟩ => by rw [e]; exact rfl
  | d :: ds, _, i + 1, ⟨v, r, e, p, q⟩ => by rw [e]; exact ⟨v, r.take i, rfl, p, RepL.take i q⟩
theorem RepL.drop {w : Wd} : ∀ {ds : List D} {vs : List V} (n : Nat), RepL K G w ds vs → RepL K G w (ds.drop n) (vs.drop n)
  | [], _, _, e => by rw [show _ = [] from e]; simp; exact rfl
  | d :: ds, _, 0, z => z
  | d :: ds, _, i + 1, ⟨v, r, e, p, q⟩ => by rw [e]; exact RepL.drop i q
theorem RepL.eraseIdx {w : Wd} : ∀ {ds : List D} {vs : List V} (n : Nat), RepL K G w ds vs → RepL K G w (ds.eraseIdx n) (vs.eraseIdx n)
  | [], _, _, e => by rw [show _ = [] from e]; simp; exact rfl
  | d :: ds, _, 0, ⟨v, r, e, _, q⟩ => by rw [e]; exact q
  | d :: ds, _, i + 1, ⟨v, r, e, p, q⟩ => by rw [e]; exact ⟨v, r.eraseIdx i, rfl, p, RepL.eraseIdx i q⟩
theorem RepL.rep {w : Wd} {ds : List D} {vs : List V} (h : RepL K G w ds vs) : ∀ n : Nat, RepL K G w (List.replicate n ds).flatten (List.replicate n vs).flatten
  | 0 => rfl
  | n + 1 => by
    rw [List.replicate_succ, List.flatten_cons, List.replicate_succ, List.flatten_cons]
    exact RepL.append h (RepL.rep h n)
theorem RepL.none_of {w : Wd} {ds : List D} {vs : List V} (h : RepL K G w ds vs) {i : Nat} (e : ds[i]? = none) : vs[i]? = none := by
  have := h.length
  rw [List.getElem?_eq_none_iff] at e ⊢
  omega
theorem RepL.isEmpty {w : Wd} : ∀ {ds : List D} {vs : List V}, RepL K G w ds vs → vs.isEmpty = ds.isEmpty
  | [], _, e => by rw [show _ = [] from e]; rfl
  | d :: ds, _, ⟨v, r, e, _, _⟩ => by rw [e]; rfl
theorem RepL.intsOf {w : Wd} : ∀ {ds : List D} {vs : List V} {l : List Int}, RepL K G w ds vs → intsD ds = some l → vs = l.map V.int
  | [], _, _, e, h => by cases h; exact e
  | d :: ds, _, l, ⟨v, r, e, p, q⟩, h => by
    cases d with
    | int i =>
      have h' : (intsD ds).map (fun l => i :: l) = some l := h
      cases z : intsD ds with
      | none => rw [z] at h'; cases h'
      | some m =>
        rw [z] at h'
        cases h'
        have p' : v = V.int i := p
        rw [e, p', RepL.intsOf q z]; rfl
    | _ => cases h
theorem RepL.strsOf {w : Wd} : ∀ {ds : List D} {vs : List V} {l : List Str}, RepL K G w ds vs → strsD ds = some l → vs = l.map V.str
  | [], _, _, e, h => by cases h; exact e
  | d :: ds, _, l, ⟨v, r, e, p, q⟩, h => by
    cases d with
    | str i =>
      have h' : (strsD ds).map (fun l => i :: l) = some l := h
      cases z : strsD ds with
      | none => rw [z] at h'; cases h'
      | some m =>
        rw [z] at h'
        cases h'
        have p' : v = V.str i := p
        rw [e, p', RepL.strsOf q z]; rfl
    | _ => cases h
theorem RepL.blsOf {w : Wd} : ∀ {ds : List D} {vs : List V} {l : List Bool}, RepL K G w ds vs → blsD ds = some l → vs = l.map V.bl
  | [], _, _, e, h => by cases h; exact e
  | d :: ds, _, l, ⟨v, r, e, p, q⟩, h => by
    cases d with
    | bl i =>
      have h' : (blsD ds).map (fun l => i :: l) = some l := h
      cases z : blsD ds with
      | none => rw [z] at h'; cases h'
      | some m =>
        rw [z] at h'
        cases h'
        have p' : v = V.bl i := p
        rw [e, p', RepL.blsOf q z]; rfl
    | _ => cases h
end

/-! ### steps -/
/-- from (H, w) to (H', w'): all but the cells stays -/
structure Step (H : Hp) (w : Wd) (H' : Hp) (w' : Wd) : Prop where
  le : w.le w'
  h : ∀ b o, H b = some o → b ∉ w.α → H' b = some o
  t : ∀ b o, H b = some o → ∃ o', H' b = some o'
  nf : ∀ b o, H b = some o → w'.F b = w.F b
  na : ∀ b o, H b = some o → b ∈ w'.α → b ∈ w.α
theorem Step.refl (H : Hp) (w : Wd) : Step H w H w := ⟨.refl w, fun _ _ e _ => e, fun _ o e => ⟨o, e⟩, fun _ _ _ => rfl, fun _ _ _ h => h⟩
theorem Wd.le.mem {w w' : Wd} (h : w.le w') {a : Addr} (e : a ∈ w.α) : a ∈ w'.α := by
  obtain ⟨r, hr⟩ := h.a
  rw [hr]
  exact List.mem_append_left _ e
theorem Step.trans {H H1 H2 : Hp} {w w1 w2 : Wd} (a : Step H w H1 w1) (b : Step H1 w1 H2 w2) : Step H w H2 w2 := by
  refine ⟨a.le.trans b.le, fun x o e n => ?_, fun x o e => ?_, fun x o e => ?_, fun x o e m => ?_⟩
  · have e1 := a.h x o e n
    refine b.h x o e1 fun m => n (a.na x o e m)
  · obtain ⟨o1, e1⟩ := a.t x o e
    exact b.t x o1 e1
  · obtain ⟨o1, e1⟩ := a.t x o e
    rw [b.nf x o1 e1, a.nf x o e]
  · obtain ⟨o1, e1⟩ := a.t x o e
    exact a.na x o e (b.na x o1 e1 m)
/-- the cells, and what never changes, lie as told -/
structure Cok (K : PySem.W.Frag) (G : Gi) (w : Wd) (H : Hp) (μ : Mu) : Prop where
  fz : ∀ b o, w.F b = some o → H b = some o
  len : w.α.length = μ.length
  nd : w.α.Nodup
  fa : ∀ a ∈ w.α, w.F a = none
  cel : ∀ (n : Nat) (a : Addr) (c : Cell), w.α[n]? = some a → μ[n]? = some c → CelAt K G w H a c
/-- what may be read as if it never changed -/
def Fb (H : Hp) (α : List Addr) : Hp := fun b => if b ∈ α then none else H b
theorem Fb.of {H : Hp} {α : List Addr} {b : Addr} {o : HO} (e : Fb H α b = some o) : H b = some o ∧ b ∉ α := by
  unfold Fb at e
  split at e
  · cases e
  · rename_i n
    exact ⟨e, n⟩
theorem Fb.mk {H : Hp} {α : List Addr} {b : Addr} {o : HO} (e : H b = some o) (n : b ∉ α) : Fb H α b = some o := by
  unfold Fb
  rw [if_neg n]
  exact e
/-- a value that is used up at once: a list at its top may be an own one, or a cell's .. -/
def RepB (K : PySem.W.Frag) (G : Gi) (w : Wd) (H : Hp) : D → V → Prop
  | .lst ds, v => ∃ a vs, v = .ref a ∧ Fb H w.α a = some (.lst vs) ∧ RepL K G w ds vs
  | d, v => Rep K G w d v
def RepM (K : PySem.W.Frag) (G : Gi) (m : Bool) (w : Wd) (H : Hp) (d : D) (v : V) : Prop := match m with
  | true => RepB K G w H d v
  | false => Rep K G w d v
section
variable {K : PySem.W.Frag} {G : Gi} {w w' : Wd} {H H' : Hp} {μ : Mu} {d : D} {v : V}
theorem Cok.fzb (C : Cok K G w H μ) : ∀ b o, w.F b = some o → Fb H w.α b = some o := fun b o e => Fb.mk (C.fz b o e) fun m => by
  rw [C.fa b m] at e
  cases e
theorem RepB.of (C : Cok K G w H μ) (h : Rep K G w d v) : RepB K G w H d v := by
  cases d with
  | lst ds =>
    obtain ⟨a, vs, e, q, r⟩ := h
    exact ⟨a, vs, e, C.fzb _ _ q, r⟩
  | _ => exact h
theorem RepM.of {m : Bool} (C : Cok K G w H μ) (h : Rep K G w d v) : RepM K G m w H d v := by
  cases m with
  | true => exact RepB.of C h
  | false => exact h
theorem RepM.bor {m : Bool} (C : Cok K G w H μ) (h : RepM K G m w H d v) : RepB K G w H d v := by
  cases m with
  | true => exact h
  | false => exact RepB.of C h
theorem RepB.step (s : Step H w H' w') (h : RepB K G w H d v) : RepB K G w' H' d v := by
  cases d with
  | lst ds =>
    obtain ⟨a, vs, e, q, r⟩ := h
    obtain ⟨z1, z2⟩ := Fb.of q
    exact ⟨a, vs, e, Fb.mk (s.h _ _ z1 z2) fun m => z2 (s.na _ _ z1 m), RepL.le s.le ds r⟩
  | _ => exact Rep.le s.le _ h
theorem RepM.step {m : Bool} (s : Step H w H' w') (h : RepM K G m w H d v) : RepM K G m w' H' d v := by
  cases m with
  | true => exact RepB.step s h
  | false => exact Rep.le s.le _ h
/-- a list's items -/
theorem RepB.asM (C : Cok K G w H μ) {ds : List D} (e : Z.asM μ d = some ds) (h : RepB K G w H d v) : ∃ a vs, v = .ref a ∧ H a = some (.lst vs) ∧ RepL K G w ds vs := by
  cases d with
  | lst xs =>
    have e' : xs = ds := Option.some.inj e
    subst e'
    obtain ⟨a, vs, e, q, r⟩ := h
    exact ⟨a, vs, e, (Fb.of q).1, r⟩
  | loc n =>
    obtain ⟨a, e1, e2⟩ := h
    cases q : μ[n]? with
    | none => rw [show Z.asM μ (.loc n) = none by simp [Z.asM, q]] at e; cases e
    | some c =>
      cases c with
      | lst xs =>
        rw [show Z.asM μ (.loc n) = some xs by simp [Z.asM, q]] at e
        cases e
        obtain ⟨vs, h1, h2⟩ := C.cel n a _ e2 q
        exact ⟨a, vs, e1, h1, h2⟩
      | obj c fs => rw [show Z.asM μ (.loc n) = none by simp [Z.asM, q]] at e; cases e
  | _ => cases e
theorem asL_of {d : D} {ds : List D} (e : Z.asM μ d = some ds) : Z.asL μ d = some ds := by
  cases d <;> first | exact e | cases e
theorem RepL.ofInts : ∀ (ns : List Int), RepL K G w (ns.map D.int) (ns.map V.int)
  | [] => rfl
  | n :: ns => ⟨.int n, _, rfl, rfl, RepL.ofInts ns⟩
theorem RepB.asL (C : Cok K G w H μ) {ds : List D} (e : Z.asL μ d = some ds) (h : RepB K G w H d v) : ∃ a vs, v = .ref a ∧ SqL K H a vs ∧ RepL K G w ds vs := by
  cases d with
  | lst xs => obtain ⟨a, vs, e1, q, r⟩ := RepB.asM C (d := .lst xs) e h; exact ⟨a, vs, e1, SqL.of q, r⟩
  | loc n => obtain ⟨a, vs, e1, q, r⟩ := RepB.asM C (d := .loc n) e h; exact ⟨a, vs, e1, SqL.of q, r⟩
  | scr ns =>
    obtain ⟨a, e1, q⟩ := h
    cases e
    exact ⟨a, _, e1, sqLe C.fz q, RepL.ofInts ns⟩
  | _ => cases e
theorem RepB.tup {ds : List D} (C : Cok K G w H μ) (h : RepB K G w H (.tup ds) v) : ∃ a vs, v = .ref a ∧ H a = some (.tup vs) ∧ RepL K G w ds vs := by
  obtain ⟨a, vs, e, q, r⟩ := h
  exact ⟨a, vs, e, C.fz _ _ q, r⟩
mutual
theorem Rep.dp (C : Cok K G w H μ) : ∀ (d : D) {v : V} {p : PyData}, Rep K G w d v → toPy0 d = some p → Dp K H v p
  | .non, v, p, h, e => by cases e; rw [show v = V.non from h]; exact .non
  | .bl b, v, p, h, e => by cases e; rw [show v = V.bl b from h]; exact .bl b
  | .int b, v, p, h, e => by cases e; rw [show v = V.int b from h]; exact .int b
  | .str b, v, p, h, e => by cases e; rw [show v = V.str b from h]; exact .str b
  | .lst ds, v, p, ⟨a, vs, e1, q, r⟩, e => by
    have e' : (toPys0 ds).map PyData.list = some p := e
    cases z : toPys0 ds with
    | none => rw [z] at e'; cases e'
    | some ps =>
      rw [z] at e'
      cases e'
      subst e1
      exact .lst (SqL.of (C.fz _ _ q)) (RepL.dp C ds r z)
  | .tup ds, v, p, ⟨a, vs, e1, q, r⟩, e => by
    have e' : (toPys0 ds).map PyData.tuple = some p := e
    cases z : toPys0 ds with
    | none => rw [z] at e'; cases e'
    | some ps =>
      rw [z] at e'
      cases e'
      subst e1
      exact .tup (SqT.of (C.fz _ _ q)) (RepL.dp C ds r z)
  | .loc _, _, _, _, e => by cases e
  | .obj _ _, _, _, _, e => by cases e
  | .scr _, _, _, _, e => by cases e
theorem RepL.dp (C : Cok K G w H μ) : ∀ (ds : List D) {vs : List V} {ps : List PyData}, RepL K G w ds vs → toPys0 ds = some ps → DpAll K H vs ps
  | [], vs, ps, h, e => by cases e; rw [show vs = [] from h]; exact .nil
  | d :: ds, vs, ps, ⟨v, r, e1, p, q⟩, e => by
    have e' : (match toPy0 d, toPys0 ds with
      | some y, some ys => some (y :: ys)
      | _, _ => none) = some ps := e
    cases z : toPy0 d with
    | none => rw [z] at e'; cases e'
    | some y =>
      cases z2 : toPys0 ds with
      | none => rw [z, z2] at e'; cases e'
      | some ys =>
        rw [z, z2] at e'
        cases e'
        subst e1
        exact .cons (Rep.dp C d p z) (RepL.dp C ds q z2)
end
theorem RepB.dp (C : Cok K G w H μ) {p : PyData} (h : RepB K G w H d v) (e : toPy μ d = some p) : Dp K H v p := by
  have go : ∀ {ds : List D} {vs : List V} {a : Addr}, SqL K H a vs → RepL K G w ds vs → (toPys0 ds).map PyData.list = some p → Dp K H (.ref a) p := fun {ds vs a} q r e' => by
    cases z : toPys0 ds with
    | none => rw [z] at e'; cases e'
    | some ps =>
      rw [z] at e'
      cases e'
      exact .lst q (RepL.dp C ds r z)
  cases d with
  | lst ds =>
    obtain ⟨a, vs, e1, q, r⟩ := RepB.asL C (d := .lst ds) rfl h
    subst e1
    exact go q r e
  | loc n =>
    cases z : Z.asM μ (.loc n) with
    | none =>
      have e' : (match Z.asM μ (.loc n) with
        | some xs => (toPys0 xs).map PyData.list
        | none => none) = some p := e
      rw [z] at e'
      cases e'
    | some xs =>
      have e' : (match Z.asM μ (.loc n) with
        | some xs => (toPys0 xs).map PyData.list
        | none => none) = some p := e
      rw [z] at e'
      obtain ⟨a, vs, e1, q, r⟩ := RepB.asM C z h
      subst e1
      exact go (SqL.of q) r e'
  | non => exact Rep.dp C .non h e
  | bl b => exact Rep.dp C (.bl b) h e
  | int i => exact Rep.dp C (.int i) h e
  | str x => exact Rep.dp C (.str x) h e
  | tup ds => exact Rep.dp C (.tup ds) h e
  | obj c ds => exact Rep.dp C (.obj c ds) h e
  | scr ns => exact Rep.dp C (.scr ns) h e
theorem RepB.isNon (h : RepB K G w H d v) : decide (v = .non) = Z.isNon d := by
  cases d with
  | non => rw [show v = V.non from h]; rfl
  | bl b => rw [show v = V.bl b from h]; rfl
  | int b => rw [show v = V.int b from h]; rfl
  | str b => rw [show v = V.str b from h]; rfl
  | lst ds => obtain ⟨a, _, e, _⟩ := h; rw [e]; rfl
  | tup ds => obtain ⟨a, _, e, _⟩ := h; rw [e]; rfl
  | loc n => obtain ⟨a, e, _⟩ := h; rw [e]; rfl
  | obj c ds => obtain ⟨a, _, _, e, _⟩ := h; rw [e]; rfl
  | scr ns => obtain ⟨a, e, _⟩ := h; rw [e]; rfl
theorem RepB.tru (C : Cok K G w H μ) {k : Bool} (h : RepB K G w H d v) (e : truD μ d = some k) : TruV K v H k := by
  cases d with
  | non => rw [show v = V.non from h]; cases e; exact rfl
  | bl b => rw [show v = V.bl b from h]; cases e; exact rfl
  | int b => rw [show v = V.int b from h]; cases e; exact rfl
  | str b =>
    rw [show v = V.str b from h]
    have e' : (if b.length ≤ sizeLine then some ((b.length : Int) != 0) else none) = some k := e
    split at e'
    · rename_i hl
      cases e'
      exact ⟨hl, rfl⟩
    · cases e'
  | tup ds =>
    cases e
    obtain ⟨a, vs, e1, q, r⟩ := RepB.tup C h
    subst e1
    exact .inr (.inl ⟨vs, SqT.of q, by rw [r.isEmpty]⟩)
  | lst ds =>
    cases e
    obtain ⟨a, vs, e1, q, r⟩ := RepB.asL C (d := .lst ds) rfl h
    subst e1
    exact .inl ⟨vs, q, by rw [r.isEmpty]⟩
  | loc n =>
    have e' : (Z.asM μ (.loc n)).map (fun xs => !xs.isEmpty) = some k := e
    cases z : Z.asM μ (.loc n) with
    | none => rw [z] at e'; cases e'
    | some xs =>
      rw [z] at e'
      cases e'
      obtain ⟨a, vs, e1, q, r⟩ := RepB.asM C z h
      subst e1
      exact .inl ⟨vs, SqL.of q, by rw [r.isEmpty]⟩
  | obj c ds => cases e
  | scr ns => cases e

/-! ### new objects -/
/-- a new object that never changes -/
theorem Step.lay (C : Cok K G w H μ) {p : Addr} {o : HO} (hp : H p = none) : Step H w (upd H p o) ⟨upd w.F p o, w.α⟩ := by
  have fp : w.F p = none := by
    cases z : w.F p with
    | none => rfl
    | some u =>
      have := C.fz p u z
      rw [hp] at this
      cases this
  refine ⟨⟨fun b u e => ?_, [], by simp⟩, fun b u e _ => ?_, fun b u e => ⟨u, ?_⟩, fun b u e => ?_, fun b u e m => m⟩
  · have ne : b ≠ p := fun z => by rw [z, fp] at e; cases e
    show upd w.F p o b = some u
    rw [upd_ne ne]; exact e
  · rw [upd_ne (ne_of_none e hp)]; exact e
  · rw [upd_ne (ne_of_none e hp)]; exact e
  · exact upd_ne (ne_of_none e hp)
theorem CelAt.step {a : Addr} {c : Cell} (l : w.le w') (e : ∀ o, H a = some o → H' a = some o) (h : CelAt K G w H a c) : CelAt K G w' H' a c := by
  cases c with
  | lst ds =>
    obtain ⟨vs, h1, h2⟩ := h
    exact ⟨vs, e _ h1, RepL.le l ds h2⟩
  | obj c fs =>
    obtain ⟨dx, vs, h1, h2⟩ := h
    exact ⟨dx, vs, e _ h1, RepF.le l fs h2⟩
theorem Cok.there (C : Cok K G w H μ) {a : Addr} (h : a ∈ w.α) : ∃ o, H a = some o := by
  obtain ⟨n, hn, e⟩ := List.getElem_of_mem h
  have h1 : w.α[n]? = some a := by rw [List.getElem?_eq_getElem hn, e]
  have hl : n < μ.length := by rw [← C.len]; exact hn
  have h2 := C.cel n a μ[n] h1 (by rw [List.getElem?_eq_getElem hl])
  cases q : μ[n] with
  | lst ds => rw [q] at h2; obtain ⟨vs, z, _⟩ := h2; exact ⟨_, z⟩
  | obj c fs => rw [q] at h2; obtain ⟨dx, vs, z, _⟩ := h2; exact ⟨_, z⟩
theorem Cok.lay (C : Cok K G w H μ) {p : Addr} {o : HO} (hp : H p = none) : Cok K G ⟨upd w.F p o, w.α⟩ (upd H p o) μ := by
  have s : Step H w (upd H p o) ⟨upd w.F p o, w.α⟩ := Step.lay C hp
  refine ⟨fun b u e => ?_, C.len, C.nd, fun a m => ?_, fun n a c e1 e2 => (C.cel n a c e1 e2).step s.le fun u e => ?_⟩
  · by_cases hb : b = p
    · subst hb
      have e1 : upd w.F b o b = some u := e
      rw [upd_same] at e1 ⊢
      exact e1
    · have e1 : upd w.F p o b = some u := e
      rw [upd_ne hb] at e1 ⊢
      exact C.fz b u e1
  · obtain ⟨u, e⟩ := C.there m
    show upd w.F p o a = none
    rw [upd_ne (ne_of_none e hp)]
    exact C.fa a m
  · rw [upd_ne (ne_of_none e hp)]
    exact e
/-- a new list that never changes -/
theorem Rep.layL {ds : List D} {vs : List V} {p : Addr} (C : Cok K G w H μ) (hp : H p = none) (h : RepL K G w ds vs) : Rep K G ⟨upd w.F p (.lst vs), w.α⟩ (.lst ds) (.ref p) :=
  ⟨p, vs, rfl, (by show upd w.F p _ p = _; exact upd_same), RepL.le (Step.lay C hp).le ds h⟩
theorem Rep.layT {ds : List D} {vs : List V} {p : Addr} (C : Cok K G w H μ) (hp : H p = none) (h : RepL K G w ds vs) : Rep K G ⟨upd w.F p (.tup vs), w.α⟩ (.tup ds) (.ref p) :=
  ⟨p, vs, rfl, (by show upd w.F p _ p = _; exact upd_same), RepL.le (Step.lay C hp).le ds h⟩
/-- a new list that is nobody's yet -/
theorem Step.bare {p : Addr} {o : HO} (hp : H p = none) : Step H w (upd H p o) w :=
  ⟨.refl w, fun b u e _ => by rw [upd_ne (ne_of_none e hp)]; exact e, fun b u e => ⟨u, by rw [upd_ne (ne_of_none e hp)]; exact e⟩, fun _ _ _ => rfl, fun _ _ _ m => m⟩
theorem Cok.bare (C : Cok K G w H μ) {p : Addr} {o : HO} (hp : H p = none) : Cok K G w (upd H p o) μ :=
  ⟨fun b u e => by rw [upd_ne (ne_of_none (C.fz b u e) hp)]; exact C.fz b u e, C.len, C.nd, C.fa, fun n a c e1 e2 => (C.cel n a c e1 e2).step (.refl w) fun u e => by rw [upd_ne (ne_of_none e hp)]; exact e⟩
/-- a new cell -/
theorem Step.cell {p : Addr} {o : HO} (hp : H p = none) : Step H w (upd H p o) ⟨w.F, w.α ++ [p]⟩ :=
  ⟨⟨fun _ _ e => e, [p], rfl⟩, fun b u e _ => by rw [upd_ne (ne_of_none e hp)]; exact e, fun b u e => ⟨u, by rw [upd_ne (ne_of_none e hp)]; exact e⟩, fun _ _ _ => rfl, fun b u e m => by
    rcases List.mem_append.mp m with z | z
    · exact z
    · have : b = p := by simpa using z
      rw [this, hp] at e
      cases e⟩
theorem Cok.cell (C : Cok K G w H μ) {p : Addr} {o : HO} {c : Cell} (hp : H p = none) (hc : CelAt K G ⟨w.F, w.α ++ [p]⟩ (upd H p o) p c) : Cok K G ⟨w.F, w.α ++ [p]⟩ (upd H p o) (μ ++ [c]) := by
  have s : Step H w (upd H p o) ⟨w.F, w.α ++ [p]⟩ := Step.cell hp
  have np : p ∉ w.α := fun m => by
    obtain ⟨u, e⟩ := C.there m
    rw [hp] at e
    cases e
  refine ⟨fun b u e => by rw [upd_ne (ne_of_none (C.fz b u e) hp)]; exact C.fz b u e, by simp [C.len], ?_, fun a m => ?_, fun n a d e1 e2 => ?_⟩
  · exact List.nodup_append.mpr ⟨C.nd, by simp, fun a ha b hb => by
      have : b = p := by simpa using hb
      rw [this]
      exact fun z => np (z ▸ ha)⟩
  · rcases List.mem_append.mp m with z | z
    · exact C.fa a z
    · have e : a = p := by simpa using z
      show w.F a = none
      cases q : w.F a with
      | none => rfl
      | some u =>
        have := C.fz a u q
        rw [e, hp] at this
        cases this
  · by_cases hn : n < w.α.length
    · have e1' : w.α[n]? = some a := by rw [← e1]; exact (List.getElem?_append_left hn).symm
      have e2' : μ[n]? = some d := by rw [← e2]; exact (List.getElem?_append_left (by rw [← C.len]; exact hn)).symm
      refine (C.cel n a d e1' e2').step s.le fun u e => ?_
      rw [upd_ne (ne_of_none e hp)]
      exact e
    · have e1' : ([p] : List Addr)[n - w.α.length]? = some a := by rw [← e1]; exact (List.getElem?_append_right (by omega)).symm
      have e2' : ([c] : List Cell)[n - μ.length]? = some d := by rw [← e2]; exact (List.getElem?_append_right (by rw [← C.len]; omega)).symm
      have hl := C.len
      have hz : n - w.α.length = 0 := by
        cases z : n - w.α.length with
        | zero => rfl
        | succ k => rw [z] at e1'; simp at e1'
      rw [hz] at e1'
      rw [← hl, hz] at e2'
      have : p = a := by simpa using e1'
      have : c = d := by simpa using e2'
      subst_vars
      exact hc
/-- a cell is changed -/
theorem Step.wr {n : Nat} {a : Addr} {o u : HO} (h : w.α[n]? = some a) (hu : H a = some u) : Step H w (upd H a o) w :=
  ⟨.refl w, fun b q e nb => by
    have ne : b ≠ a := fun z => nb (by rw [z]; exact List.mem_of_getElem? h)
    rw [upd_ne ne]; exact e, fun b q e => by
    by_cases hb : b = a
    · subst hb; exact ⟨o, upd_same⟩
    · exact ⟨q, by rw [upd_ne hb]; exact e⟩, fun _ _ _ => rfl, fun _ _ _ m => m⟩
theorem Cok.wr (C : Cok K G w H μ) {n : Nat} {a : Addr} {o : HO} {c : Cell} (h : w.α[n]? = some a) (hc : CelAt K G w (upd H a o) a c) : Cok K G w (upd H a o) (μ.set n c) := by
  refine ⟨fun b u e => ?_, by simp [C.len], C.nd, C.fa, fun m b d e1 e2 => ?_⟩
  · rw [upd_ne (fun z => by
      have := C.fa a (List.mem_of_getElem? h)
      rw [z, this] at e
      cases e)]
    exact C.fz b u e
  · by_cases hm : m = n
    · subst hm
      rw [h] at e1
      cases e1
      obtain ⟨hl, _⟩ := List.getElem?_eq_some_iff.mp h
      rw [List.getElem?_set_self (by rw [← C.len]; exact hl)] at e2
      cases e2
      exact hc
    · rw [List.getElem?_set_ne (Ne.symm hm)] at e2
      refine (C.cel m b d e1 e2).step (.refl w) fun u e => ?_
      rw [upd_ne (fun z => ?_)]
      · exact e
      · subst z
        obtain ⟨h1, e1'⟩ := List.getElem?_eq_some_iff.mp e1
        obtain ⟨h2, e2'⟩ := List.getElem?_eq_some_iff.mp h
        exact hm ((List.getElem_inj C.nd).mp (e1'.trans e2'.symm))
end
end Z

/-! Z3: the operators and built-ins do what Z1 says. -/
namespace Z
open PySem PySem.Spec PyProof.Rows L2

/-- the answer d, at a heap that is a step on -/
def Ans (K : PySem.W.Frag) (G : Gi) (w : Wd) (H : Hp) (μ : Mu) (d : D) (Q : VK) : Prop := ∀ v H' w', Step H w H' w' → Cok K G w' H' μ → Rep K G w' d v → Q v H'
theorem ite_some {α : Type} {b : Bool} {x y : α} (h : ite? b x = some y) : b = true ∧ x = y := by
  cases b with
  | true => exact ⟨rfl, Option.some.inj h⟩
  | false => cases h
theorem fits_le {n : Nat} (h : fits n = true) : n ≤ sizeLine := of_decide_eq_true h
section
variable {X : Cx} {G : Gi} {w : Wd} {H : Hp} {μ : Mu} {d : D} {Q : VK}
theorem Ans.here {v : V} (a : Ans X.K G w H μ d Q) (C : Cok X.K G w H μ) (r : Rep X.K G w d v) : Q v H := a v H w (.refl H w) C r
theorem Ans.newL {ds : List D} {vs : List V} (a : Ans X.K G w H μ (.lst ds) Q) (C : Cok X.K G w H μ) (r : RepL X.K G w ds vs) : ∀ p, H p = none → Q (.ref p) (upd H p (.lst vs)) := fun p hp =>
  a (.ref p) _ _ (Step.lay C hp) (Cok.lay C hp) (Rep.layL C hp r)
theorem Ans.newT {ds : List D} {vs : List V} (a : Ans X.K G w H μ (.tup ds) Q) (C : Cok X.K G w H μ) (r : RepL X.K G w ds vs) : ∀ p, H p = none → Q (.ref p) (upd H p (.tup vs)) := fun p hp =>
  a (.ref p) _ _ (Step.lay C hp) (Cok.lay C hp) (Rep.layT C hp r)
/-- two operands and an answer -/
def rZ (K : PySem.W.Frag) (G : Gi) (f : Mu → D → D → Option D) : R2 := fun x y H Q => ∃ w μ a b d, Cok K G w H μ ∧ RepB K G w H a x ∧ RepB K G w H b y ∧ f μ a b = some d ∧ Ans K G w H μ d Q
theorem repB_int {i : Int} {v : V} (h : RepB X.K G w H (.int i) v) : v = .int i := h
theorem repB_str {i : Str} {v : V} (h : RepB X.K G w H (.str i) v) : v = .str i := h
theorem op_mulZ : OpR X (binaryOp .Mult) (rI (fun i j => mulOk i j = true) fun i j => .int (i * j)) := opI fun i j _ _ _ _ _ hc q => mul_int q (CMulW.ok (show i.natAbs.log2 + j.natAbs.log2 < 1000000 from of_decide_eq_true hc))
theorem op_fdivZ : OpR X (binaryOp .FloorDiv) (rI (fun _ j => divOk j = true) fun i j => .int (i.fdiv j)) := opI fun _ _ _ _ _ _ _ hc q => by
  unfold divOk at hc
  rw [Bool.and_eq_true] at hc
  exact floordiv_int (of_decide_eq_true hc.1) q (.inl (PyProof.noPylong_of_log2 (of_decide_eq_true hc.2)))
theorem op_powZ : OpR X (binaryOp .Pow) (rI (fun i j => powOk i j = true) fun i j => .int (i ^ j.toNat)) := opI fun _ _ _ _ _ _ _ hc q => by
  unfold powOk at hc
  rw [Bool.and_eq_true] at hc
  exact pow_int (of_decide_eq_true hc.1) (of_decide_eq_true hc.2) q
theorem opB (o : Operator) : OpR X (binaryOp o) (rZ X.K G (binD o)) := by
  intro pins s σ H x y v u Q I rx ry h
  obtain ⟨w, μ, a, b, d, C, ra, rb, e, k⟩ := h
  unfold binD at e
  split at e
  · cases e
    exact op_add pins s σ H x y v u Q I rx ry ⟨_, _, ra, rb, k.here C rfl⟩
  · obtain ⟨e1, e2⟩ := ite_some e
    subst e2
    exact op_add_str pins s σ H x y v u Q I rx ry ⟨_, _, ra, rb, fits_le e1, k.here C rfl⟩
  · cases e
    exact op_sub pins s σ H x y v u Q I rx ry ⟨_, _, ra, rb, k.here C rfl⟩
  · obtain ⟨e1, e2⟩ := ite_some e
    subst e2
    exact op_mulZ pins s σ H x y v u Q I rx ry ⟨_, _, ra, rb, e1, k.here C rfl⟩
  · obtain ⟨e1, e2⟩ := ite_some e
    subst e2
    exact op_fdivZ pins s σ H x y v u Q I rx ry ⟨_, _, ra, rb, e1, k.here C rfl⟩
  · obtain ⟨e1, e2⟩ := ite_some e
    subst e2
    exact op_modN pins s σ H x y v u Q I rx ry ⟨_, _, ra, rb, of_decide_eq_true e1, k.here C rfl⟩
  · obtain ⟨e1, e2⟩ := ite_some e
    subst e2
    exact op_powZ pins s σ H x y v u Q I rx ry ⟨_, _, ra, rb, e1, k.here C rfl⟩
  · split at e
    · rename_i xs ys h1 h2
      obtain ⟨l1, vs, rfl, q1, r1⟩ := RepB.asM C h1 ra
      obtain ⟨l2, us, rfl, q2, r2⟩ := RepB.asM C h2 rb
      unfold catL at e
      cases hf : fits (xs.length + ys.length) with
      | false => rw [hf] at e; cases e
      | true =>
        rw [hf] at e
        cases e
        exact op_cat pins s σ H _ _ v u Q I rx ry ⟨l1, l2, vs, us, rfl, rfl, q1, q2, by rw [r1.length, r2.length]; exact fits_le hf, k.newL C (r1.append r2)⟩
    · cases e
  · split at e
    · rename_i xs h1
      obtain ⟨l1, vs, rfl, q1, r1⟩ := RepB.asM C h1 ra
      unfold repL at e
      rename_i kk _ _ 
      cases hf : (i63 kk && fits (xs.length * kk.toNat)) with
      | false => rw [hf] at e; cases e
      | true =>
        rw [hf] at e
        cases e
        rw [Bool.and_eq_true] at hf
        obtain ⟨hf1, hf2⟩ := hf
        exact op_rep pins s σ H _ _ v u Q I rx ry ⟨l1, _, vs, rfl, rb, q1, i63_lo hf1, i63_hi hf1, by rw [r1.length]; exact fits_le hf2, k.newL C (r1.rep _)⟩
    · cases e
  · cases e
/-- comparisons -/
def rZc (K : PySem.W.Frag) (G : Gi) (o : CmpOp) : R2 := fun x y H Q => ∃ w μ a b k, Cok K G w H μ ∧ RepB K G w H a x ∧ RepB K G w H b y ∧ cmpD o μ a b = some k ∧ Q (.bl k) H
theorem opEqZ (hu : X.A.units + 64 < cLine) {pins : List (Addr × Obj)} {s : Shared} {σ : L2.St} {x y : V} {v u : Value} {k : Bool} {a b : D} (I : Inv X pins σ H s) (rx : RelV x v) (ry : RelV y u) (C : Cok X.K G w H μ) (ra : RepB X.K G w H a x) (rb : RepB X.K G w H b y)
    (e : eqD μ a b = some k) (q : Q (.bl k) H) : wpAny (model X.prog X.w) X.A (compareOp .Eq v u) (EP X pins σ Q) X.xe s := by
  unfold eqD at e
  split at e
  · rename_i p1 p2 h1 h2
    split at e
    · rename_i hs
      rw [Bool.and_eq_true] at hs
      cases e
      exact op_eqD hu pins s σ H x y v u Q I rx ry ⟨p1, p2, RepB.dp C ra h1, RepB.dp C rb h2, hs.1, hs.2, q⟩
    · cases e
  · cases e
theorem opNeZ (hu : X.A.units + 64 < cLine) {pins : List (Addr × Obj)} {s : Shared} {σ : L2.St} {x y : V} {v u : Value} {k : Bool} {a b : D} (I : Inv X pins σ H s) (rx : RelV x v) (ry : RelV y u) (C : Cok X.K G w H μ) (ra : RepB X.K G w H a x) (rb : RepB X.K G w H b y)
    (e : (eqD μ a b).map Bool.not = some k) (q : Q (.bl k) H) : wpAny (model X.prog X.w) X.A (compareOp .NotEq v u) (EP X pins σ Q) X.xe s := by
  unfold eqD at e
  split at e
  · rename_i p1 p2 h1 h2
    split at e
    · rename_i hs
      rw [Bool.and_eq_true] at hs
      cases e
      exact op_neD hu pins s σ H x y v u Q I rx ry ⟨p1, p2, RepB.dp C ra h1, RepB.dp C rb h2, hs.1, hs.2, q⟩
    · cases e
  · cases e
theorem cmpZ (o : CmpOp) (hu : X.A.units + 65 < cLine) : OpR X (compareOp o) (rZc X.K G o) := by
  intro pins s σ H x y v u Q I rx ry h
  obtain ⟨w, μ, a, b, k, C, ra, rb, e, q⟩ := h
  unfold cmpD at e
  split at e
  · cases e
    exact op_lt pins s σ H x y v u Q I rx ry ⟨_, _, ra, rb, q⟩
  · cases e
    exact op_le pins s σ H x y v u Q I rx ry ⟨_, _, ra, rb, q⟩
  · cases e
    exact op_gt pins s σ H x y v u Q I rx ry ⟨_, _, ra, rb, q⟩
  · cases e
    exact op_ge pins s σ H x y v u Q I rx ry ⟨_, _, ra, rb, q⟩
  · exact opEqZ (by omega) I rx ry C ra rb e q
  · exact opNeZ (by omega) I rx ry C ra rb e q
  · cases e
    exact op_isN pins s σ H x y v u Q I rx ry ⟨rb, by rw [RepB.isNon ra]; exact q⟩
  · cases e
    exact op_notN pins s σ H x y v u Q I rx ry ⟨rb, by rw [RepB.isNon ra]; exact q⟩
  · rename_i x0 z0
    split at e
    · rename_i c hc
      cases e
      have ex : x0 = ⟨#[c]⟩ := by
        obtain ⟨⟨l⟩⟩ := x0
        have hc' : l = [c] := hc
        rw [hc']
      exact op_in_sign pins s σ H x y v u Q I rx ry ⟨c, z0, by rw [← ex]; exact ra, rb, q⟩
    · cases e
  · rename_i x0 z0
    split at e
    · rename_i c hc
      cases e
      have ex : x0 = ⟨#[c]⟩ := by
        obtain ⟨⟨l⟩⟩ := x0
        have hc' : l = [c] := hc
        rw [hc']
      exact op_notIn_sign pins s σ H x y v u Q I rx ry ⟨c, z0, by rw [← ex]; exact ra, rb, q⟩
    · cases e
  · split at e
    · rename_i p1 p2 h1 h2
      obtain ⟨hs, e2⟩ := ite_some e
      rw [Bool.and_eq_true] at hs
      subst e2
      exact op_inD hu pins s σ H x y v u Q I rx ry ⟨p1, p2, RepB.dp C ra h1, RepB.dp C rb h2, hs.1, hs.2, q⟩
    · cases e
  · split at e
    · rename_i p1 p2 h1 h2
      obtain ⟨hs, e2⟩ := ite_some e
      rw [Bool.and_eq_true] at hs
      subst e2
      exact op_notInD hu pins s σ H x y v u Q I rx ry ⟨p1, p2, RepB.dp C ra h1, RepB.dp C rb h2, hs.1, hs.2, q⟩
    · cases e
  · cases e
theorem RepL.atI {K : PySem.W.Frag} {ds : List D} {vs : List V} {i : Int} {d : D} (r : RepL K G w ds vs) (e : L2.atI ds i = some d) : ∃ v, L2.atI vs i = some v ∧ Rep K G w d v := by
  unfold L2.atI at e ⊢
  rw [r.length]
  cases z : ixN ds.length i with
  | none => rw [z] at e; cases e
  | some j =>
    rw [z] at e
    exact r.get e
theorem ixZ : IxR X (rZ X.K G idxD) := by
  intro value slice pins s σ H x y v u Q I rx ry h hs
  obtain ⟨w, μ, a, b, d, C, ra, rb, e, k⟩ := h
  unfold idxD at e
  split at e
  · obtain ⟨p, vs, rfl, q, r⟩ := RepB.tup C ra
    obtain ⟨z, ez, rz⟩ := r.atI e
    exact ix_tup value slice pins s σ H _ y v u Q I rx ry ⟨p, vs, _, z, rfl, rb, SqT.of q, ez, k.here C rz⟩ hs
  · rename_i x0 i0
    unfold strAt at e
    cases hf : fits x0.length with
    | false => rw [hf] at e; cases e
    | true =>
      rw [hf] at e
      have e' : (L2.atI x0.cps.toList i0).map (fun c => D.str ⟨#[c]⟩) = some d := e
      cases z : L2.atI x0.cps.toList i0 with
      | none => rw [z] at e'; cases e'
      | some c =>
        rw [z] at e'
        cases e'
        exact ix_str value slice pins s σ H x y v u Q I rx ry ⟨x0, i0, c, ra, rb, fits_le hf, z, k.here C rfl⟩ hs
  · rename_i i0 _ _
    cases z : Z.asL μ a with
    | none => rw [z] at e; cases e
    | some ds =>
      rw [z] at e
      obtain ⟨p, vs, rfl, q, r⟩ := RepB.asL C z ra
      obtain ⟨z, ez, rz⟩ := r.atI e
      exact ix_list value slice pins s σ H _ y v u Q I rx ry ⟨p, vs, _, z, rfl, rb, q, ez, k.here C rz⟩ hs
  · cases e
theorem RepL.cut {K : PySem.W.Frag} {ds : List D} {vs : List V} (r : RepL K G w ds vs) (lo hi : Option Int) : RepL K G w (cutD ds lo hi) (cutV vs lo hi) := by
  unfold cutD cutV
  rw [r.length]
  exact (r.drop _).take _
theorem slZ : SlR X (fun x lo hi H Q => ∃ w μ a d, Cok X.K G w H μ ∧ RepB X.K G w H a x ∧ slcD μ a lo hi = some d ∧ Ans X.K G w H μ d Q) := by
  intro pins s σ H x v vl vu lo hi sl Q I rx hs pl pu h
  obtain ⟨w, μ, a, d, C, ra, e, k⟩ := h
  unfold slcD at e
  split at e
  · rename_i x0
    obtain ⟨e1, e2⟩ := ite_some e
    subst e2
    exact sl_str pins s σ H x v vl vu lo hi sl Q I rx hs pl pu ⟨x0, ra, fits_le e1, k.here C rfl⟩
  · rename_i ds
    obtain ⟨e1, e2⟩ := ite_some e
    subst e2
    obtain ⟨p, vs, rfl, q, r⟩ := RepB.tup C ra
    refine sl_tup pins s σ H _ v vl vu lo hi sl Q I rx hs pl pu ⟨p, vs, rfl, SqT.of q, ?_, k.newT C (r.cut lo hi)⟩
    rw [r.length]
    rintro ⟨z1, z2⟩
    rw [decide_eq_true z1, decide_eq_true z2] at e1
    cases e1
  · cases z : Z.asL μ a with
    | none => rw [z] at e; cases e
    | some ds =>
      rw [z] at e
      cases e
      obtain ⟨p, vs, rfl, q, r⟩ := RepB.asL C z ra
      exact sl_list pins s σ H _ v vl vu lo hi sl Q I rx hs pl pu ⟨p, vs, rfl, q, k.newL C (r.cut lo hi)⟩
end
end Z

/-! Z4: built-in functions and methods. -/
namespace Z
open PySem PySem.Spec PyProof.Rows L2

def RepBs (K : PySem.W.Frag) (G : Gi) (m : Bool) (w : Wd) (H : Hp) : List D → List V → Prop
  | [], vs => vs = []
  | d :: ds, vs => ∃ v r, vs = v :: r ∧ RepM K G m w H d v ∧ RepBs K G m w H ds r
theorem RepBs.pure {K : PySem.W.Frag} {G : Gi} {w : Wd} {H : Hp} : ∀ {ds : List D} {vs : List V}, RepBs K G false w H ds vs → RepL K G w ds vs
  | [], _, e => e
  | _ :: _, _, ⟨v, r, e, p, q⟩ => ⟨v, r, e, p, RepBs.pure q⟩
theorem RepBs.step {K : PySem.W.Frag} {G : Gi} {w w' : Wd} {H H' : Hp} {m : Bool} (s : Step H w H' w') : ∀ {ds : List D} {vs : List V}, RepBs K G m w H ds vs → RepBs K G m w' H' ds vs
  | [], _, e => e
  | _ :: _, _, ⟨v, r, e, p, q⟩ => ⟨v, r, e, RepM.step s p, RepBs.step s q⟩
theorem RepBs.one {K : PySem.W.Frag} {G : Gi} {w : Wd} {H : Hp} {d : D} {vs : List V} (h : RepBs K G true w H [d] vs) : ∃ v, vs = [v] ∧ RepB K G w H d v := by
  obtain ⟨v, r, e, p, q⟩ := h
  cases (show r = [] from q)
  exact ⟨v, e, p⟩
theorem RepBs.two {K : PySem.W.Frag} {G : Gi} {w : Wd} {H : Hp} {d e : D} {vs : List V} (h : RepBs K G true w H [d, e] vs) : ∃ v u, vs = [v, u] ∧ RepB K G w H d v ∧ RepB K G w H e u := by
  obtain ⟨v, r, e1, p, q⟩ := h
  obtain ⟨u, e2, q2⟩ := RepBs.one q
  subst e2
  exact ⟨v, u, e1, p, q2⟩

def biName : Bi → Str
  | .len => "len"
  | .int => "int"
  | .sum => "sum"
  | .min => "min"
  | .max => "max"
  | .max2 => "max"
  | .min2 => "min"
  | .abs => "abs"
  | .str => "str"
  | .isi _ => "isinstance"
  | .all => "all"
  | .any => "any"
  | .sorted => "sorted"
  | .tuple => "tuple"
def biVal : Bi → Value
  | .len => .builtin "len"
  | .int => .type "int"
  | .sum => .builtin "sum"
  | .min => .builtin "min"
  | .max => .builtin "max"
  | .max2 => .builtin "max"
  | .min2 => .builtin "min"
  | .abs => .builtin "abs"
  | .str => .type "str"
  | .isi _ => .builtin "isinstance"
  | .all => .builtin "all"
  | .any => .builtin "any"
  | .sorted => .builtin "sorted"
  | .tuple => .type "tuple"
theorem biBoot : ∀ b : Bi, bootBuiltins (biName b) = some (biVal b)
  | .len => by decide +kernel
  | .int => by decide +kernel
  | .sum => by decide +kernel
  | .min => by decide +kernel
  | .max => by decide +kernel
  | .max2 => by decide +kernel
  | .min2 => by decide +kernel
  | .abs => by decide +kernel
  | .str => by decide +kernel
  | .isi t => by cases t <;> decide +kernel
  | .all => by decide +kernel
  | .any => by decide +kernel
  | .sorted => by decide +kernel
  | .tuple => by decide +kernel
def tyName : Ty → Str
  | .int => "int"
  | .bool => "bool"
  | .str => "str"
  | .list => "list"
  | .tuple => "tuple"
def tyStr : Ty → String
  | .int => "int"
  | .bool => "bool"
  | .str => "str"
  | .list => "list"
  | .tuple => "tuple"
theorem tyBoot : ∀ t : Ty, bootBuiltins (tyName t) = some (.type (tyStr t))
  | .int => by decide +kernel
  | .bool => by decide +kernel
  | .str => by decide +kernel
  | .list => by decide +kernel
  | .tuple => by decide +kernel
/-- how many arguments a built-in has (the class that isinstance asks of is not counted) -/
def biNum : Bi → Nat
  | .max2 => 2
  | .min2 => 2
  | _ => 1
/-- what is behind the arguments -/
def biTail : Bi → List V
  | .isi t => [.ty (tyStr t)]
  | _ => []
theorem minI_le : ∀ (l : List Int) (m : Int), minI m l ≤ m ∧ (∀ y ∈ l, minI m l ≤ y) ∧ (minI m l = m ∨ minI m l ∈ l)
  | [], m => ⟨Int.le_refl _, fun _ h => (nomatch h), .inl rfl⟩
  | x :: r, m => by
    obtain ⟨h1, h2, h3⟩ := minI_le r (if x < m then x else m)
    show minI (if x < m then x else m) r ≤ m ∧ (∀ y ∈ x :: r, minI (if x < m then x else m) r ≤ y) ∧ (minI (if x < m then x else m) r = m ∨ minI (if x < m then x else m) r ∈ x :: r)
    by_cases hx : x < m
    · rw [if_pos hx] at h1 h2 h3 ⊢
      refine ⟨by omega, fun y hy => ?_, .inr ?_⟩
      · rcases List.mem_cons.mp hy with rfl | hy
        · exact h1
        · exact h2 y hy
      · rcases h3 with h3 | h3
        · rw [h3]; exact List.mem_cons_self
        · exact List.mem_cons_of_mem _ h3
    · rw [if_neg hx] at h1 h2 h3 ⊢
      refine ⟨h1, fun y hy => ?_, ?_⟩
      · rcases List.mem_cons.mp hy with rfl | hy
        · omega
        · exact h2 y hy
      · rcases h3 with h3 | h3
        · exact .inl h3
        · exact .inr (List.mem_cons_of_mem _ h3)
theorem maxI_le : ∀ (l : List Int) (m : Int), m ≤ maxI m l ∧ (∀ y ∈ l, y ≤ maxI m l) ∧ (maxI m l = m ∨ maxI m l ∈ l)
  | [], m => ⟨Int.le_refl _, fun _ h => (nomatch h), .inl rfl⟩
  | x :: r, m => by
    obtain ⟨h1, h2, h3⟩ := maxI_le r (if m < x then x else m)
    show m ≤ maxI (if m < x then x else m) r ∧ (∀ y ∈ x :: r, y ≤ maxI (if m < x then x else m) r) ∧ (maxI (if m < x then x else m) r = m ∨ maxI (if m < x then x else m) r ∈ x :: r)
    by_cases hx : m < x
    · rw [if_pos hx] at h1 h2 h3 ⊢
      refine ⟨by omega, fun y hy => ?_, .inr ?_⟩
      · rcases List.mem_cons.mp hy with rfl | hy
        · exact h1
        · exact h2 y hy
      · rcases h3 with h3 | h3
        · rw [h3]; exact List.mem_cons_self
        · exact List.mem_cons_of_mem _ h3
    · rw [if_neg hx] at h1 h2 h3 ⊢
      refine ⟨h1, fun y hy => ?_, ?_⟩
      · rcases List.mem_cons.mp hy with rfl | hy
        · omega
        · exact h2 y hy
      · rcases h3 with h3 | h3
        · exact .inl h3
        · exact .inr (List.mem_cons_of_mem _ h3)
def kitTy : Ty → String → Bool
  | .int, "int" => true
  | .int, "bool" => true
  | .bool, "bool" => true
  | .str, "str" => true
  | .list, "list" => true
  | .tuple, "tuple" => true
  | _, _ => false
theorem kit_all (K : PySem.W.Frag) : ∀ (t : Ty) (a : String), a ∈ ["NoneType", "bool", "int", "str", "list", "tuple"] → PySem.W.kitOne K (.type a) (.type (tyStr t)) = some (kitTy t a) := by
  intro t a h
  have e : ∀ (t : Ty) (a : String), a ∈ ["NoneType", "bool", "int", "str", "list", "tuple"] → kitB a (tyStr t) = some (kitTy t a) := by
    intro t a h
    rcases List.mem_cons.mp h with rfl | h
    · cases t <;> decide +kernel
    rcases List.mem_cons.mp h with rfl | h
    · cases t <;> decide +kernel
    rcases List.mem_cons.mp h with rfl | h
    · cases t <;> decide +kernel
    rcases List.mem_cons.mp h with rfl | h
    · cases t <;> decide +kernel
    rcases List.mem_cons.mp h with rfl | h
    · cases t <;> decide +kernel
    rcases List.mem_cons.mp h with rfl | h
    · cases t <;> decide +kernel
    cases h
  exact kit_ty (e t a h)
section
variable {X : Cx} {G : Gi} {w : Wd} {H : Hp} {μ : Mu} {d : D} {Q : VK}
theorem Ans.bl {k : Bool} {v : V} (a : Ans X.K G w H μ (.bl k) Q) (C : Cok X.K G w H μ) : Q (.bl k) H := a.here C rfl
theorem isi_all {v : V} (C : Cok X.K G w H μ) (h : RepB X.K G w H d v) (ok : Ty.ok μ d = true) : ∃ a, TyX X.K H v (.type a) ∧ a ∈ ["NoneType", "bool", "int", "str", "list", "tuple"] ∧ ∀ t : Ty, kitTy t a = t.is μ d := by
  cases d with
  | non => cases (show v = V.non from h); exact ⟨"NoneType", .base .non, by simp, fun t => by cases t <;> rfl⟩
  | bl b => cases (show v = V.bl b from h); exact ⟨"bool", .base (.bl b), by simp, fun t => by cases t <;> rfl⟩
  | int b => cases (show v = V.int b from h); exact ⟨"int", .base (.int b), by simp, fun t => by cases t <;> rfl⟩
  | str b => cases (show v = V.str b from h); exact ⟨"str", .base (.str b), by simp, fun t => by cases t <;> rfl⟩
  | lst ds =>
    obtain ⟨a, vs, rfl, q, r⟩ := RepB.asM C (d := .lst ds) rfl h
    exact ⟨"list", .base (.lst q), by simp, fun t => by cases t <;> rfl⟩
  | loc n =>
    have ok' : (asM μ (.loc n)).isSome = true := ok
    cases z : asM μ (.loc n) with
    | none => rw [z] at ok'; cases ok'
    | some ds =>
      obtain ⟨a, vs, rfl, q, r⟩ := RepB.asM C z h
      refine ⟨"list", .base (.lst q), by simp, fun t => ?_⟩
      cases t <;> first | rfl | (show true = (asM μ (.loc n)).isSome; rw [z]; rfl)
  | tup ds =>
    obtain ⟨a, vs, rfl, q, r⟩ := RepB.tup C h
    exact ⟨"tuple", .base (.tup q), by simp, fun t => by cases t <;> rfl⟩
  | obj c ds => cases ok
  | scr ns => cases ok
theorem isi_ok {t : Ty} {v : V} (C : Cok X.K G w H μ) (h : RepB X.K G w H d v) (ok : Ty.ok μ d = true) : ∃ a, TyX X.K H v (.type a) ∧ a ∈ ["NoneType", "bool", "int", "str", "list", "tuple"] ∧ kitTy t a = t.is μ d := by
  obtain ⟨a, h1, h2, h3⟩ := isi_all C h ok
  exact ⟨a, h1, h2, h3 t⟩
/-! ### sorting -/
section
variable {α : Type} {le : α → α → Bool}
theorem ins_perm (x : α) : ∀ l : List α, (ins le x l).Perm (x :: l)
  | [] => .refl _
  | y :: l => by
    unfold ins
    split
    · exact .refl _
    · exact ((ins_perm x l).cons y).trans (List.Perm.swap ..)
theorem isrt_perm : ∀ l : List α, (isrt le l).Perm l
  | [] => .refl _
  | x :: l => (ins_perm x _).trans ((isrt_perm l).cons x)
structure Tot (le : α → α → Bool) : Prop where
  tot : ∀ x y, le x y = true ∨ le y x = true
  tr : ∀ x y z, le x y = true → le y z = true → le x z = true
  anti : ∀ x y, le x y = true → le y x = true → x = y
theorem ins_srt (T : Tot le) (x : α) : ∀ l : List α, l.Pairwise (fun a b => le a b = true) → (ins le x l).Pairwise (fun a b => le a b = true)
  | [], _ => List.pairwise_singleton _ _
  | y :: l, h => by
    obtain ⟨h1, h2⟩ := List.pairwise_cons.mp h
    unfold ins
    split
    · rename_i e
      refine List.pairwise_cons.mpr ⟨fun z hz => ?_, h⟩
      rcases List.mem_cons.mp hz with rfl | hz
      · exact e
      · exact T.tr _ _ _ e (h1 z hz)
    · rename_i e
      have e' : le y x = true := by
        rcases T.tot x y with z | z
        · exact absurd z e
        · exact z
      refine List.pairwise_cons.mpr ⟨fun z hz => ?_, ins_srt T x l h2⟩
      rcases List.mem_cons.mp ((ins_perm x l).subset hz) with rfl | hz
      · exact e'
      · exact h1 z hz
theorem isrt_srt (T : Tot le) : ∀ l : List α, (isrt le l).Pairwise (fun a b => le a b = true)
  | [] => .nil
  | x :: l => ins_srt T x _ (isrt_srt T l)
theorem srt_uniq (T : Tot le) : ∀ {l m : List α}, l.Perm m → l.Pairwise (fun a b => le a b = true) → m.Pairwise (fun a b => le a b = true) → l = m
  | [], m, h, _, _ => h.symm.eq_nil.symm
  | x :: l, [], h, _, _ => absurd h.length_eq (by simp)
  | x :: l, y :: m, h, h1, h2 => by
    obtain ⟨a1, a2⟩ := List.pairwise_cons.mp h1
    obtain ⟨b1, b2⟩ := List.pairwise_cons.mp h2
    have e : x = y := by
      have hy : y ∈ x :: l := h.symm.subset (List.mem_cons_self ..)
      have hx : x ∈ y :: m := h.subset (List.mem_cons_self ..)
      rcases List.mem_cons.mp hy with e | hy
      · exact e.symm
      · rcases List.mem_cons.mp hx with e | hx
        · exact e
        · exact T.anti _ _ (a1 y hy) (b1 x hx)
    subst e
    rw [srt_uniq T h.cons_inv a2 b2]
theorem isrt_eq (T : Tot le) {ys xs : List α} (h : ys.Perm xs) (s : ys.Pairwise (fun a b => le a b = true)) : ys = isrt le xs := srt_uniq T (h.trans (isrt_perm xs).symm) s (isrt_srt T xs)
theorem isrt_len (l : List α) : (isrt le l).length = l.length := (isrt_perm l).length_eq
end
theorem leI_tot : Tot leI := ⟨fun x y => by unfold leI; simp only [decide_eq_true_eq]; omega, fun x y z => by unfold leI; simp only [decide_eq_true_eq]; omega, fun x y => by unfold leI; simp only [decide_eq_true_eq]; omega⟩
theorem leP_iff {p q : Int × Int} : leP p q = true ↔ p.1 < q.1 ∨ (p.1 = q.1 ∧ p.2 ≤ q.2) := by
  unfold leP
  simp only [Bool.or_eq_true, Bool.and_eq_true, decide_eq_true_eq]
theorem leP_tot : Tot leP := ⟨fun x y => by rw [leP_iff, leP_iff]; omega, fun x y z => by rw [leP_iff, leP_iff, leP_iff]; omega, fun x y h1 h2 => by
  rw [leP_iff] at h1 h2
  exact Prod.ext (by omega) (by omega)⟩
theorem leS_iff {x y : Str} : leS x y = true ↔ ¬ y.cps.toList < x.cps.toList := by
  unfold leS
  rw [PyProof.Rows.ltCps_eq]
  simp
theorem leS_tot : Tot leS := ⟨fun x y => by
    rw [leS_iff, leS_iff]
    exact (List.le_total (α := Nat) x.cps.toList y.cps.toList), fun x y z => by
    rw [leS_iff, leS_iff, leS_iff]
    exact fun h1 h2 => List.le_trans (α := Nat) h1 h2, fun x y h1 h2 => by
    rw [leS_iff] at h1 h2
    have : x.cps.toList = y.cps.toList := List.le_antisymm (α := Nat) h1 h2
    cases x with
    | mk a => cases y with
      | mk b => exact congrArg Str.mk (Array.toList_inj.mp this)⟩
theorem risingS_all : ∀ (l : List Str) (p : Str), risingS p l = true → (p :: l).Pairwise (fun a b => leS a b = true)
  | [], p, _ => List.pairwise_singleton _ _
  | x :: l, p, h => by
    unfold risingS at h
    rw [Bool.and_eq_true] at h
    have ih := risingS_all l x h.2
    refine List.pairwise_cons.mpr ⟨fun z hz => ?_, ih⟩
    have h1 : leS p x = true := h.1
    rcases List.mem_cons.mp hz with rfl | hz
    · exact h1
    · exact leS_tot.tr _ _ _ h1 ((List.pairwise_cons.mp ih).1 z hz)
theorem sortedS_all : ∀ (l : List Str), sortedS l = true → l.Pairwise (fun a b => leS a b = true)
  | [], _ => .nil
  | x :: l, h => risingS_all l x h
theorem prsD_map : ∀ {ds : List D} {l : List (Int × Int)}, prsD ds = some l → ds = l.map eP
  | [], l, h => by cases h; rfl
  | d :: ds, l, h => by
    unfold prsD at h
    split at h
    · rename_i e; cases e
    · rename_i i j r e
      cases e
      cases hr : prsD ds with
      | none => rw [hr] at h; cases h
      | some l' =>
        rw [hr] at h
        cases h
        rw [prsD_map hr]; rfl
    · cases h
/-- the key of a pair that lies in the heap -/
def keyP (H : Hp) (v : V) : Int × Int := match v with
  | .ref t => match H t with
    | some (.tup [.int i, .int j]) => (i, j)
    | _ => (0, 0)
  | _ => (0, 0)
theorem rep_pair {K : PySem.W.Frag} {G : Gi} {w : Wd} {H : Hp} {μ : Mu} (C : Cok K G w H μ) {p : Int × Int} {v : V} (h : Rep K G w (eP p) v) : ∃ t, v = .ref t ∧ H t = some (.tup [.int (keyP H v).1, .int (keyP H v).2]) ∧ keyP H v = p := by
  obtain ⟨t, vs, rfl, q, r⟩ := h
  have hq := C.fz _ _ q
  obtain ⟨v1, r1, e1, q1, p1⟩ := r
  subst e1
  obtain ⟨v2, r2, e2, q2, p2⟩ := p1
  subst e2
  cases (show r2 = [] from p2)
  cases (show v1 = V.int p.1 from q1)
  cases (show v2 = V.int p.2 from q2)
  have e : keyP H (.ref t) = p := by
    show (match H t with
      | some (.tup [.int i, .int j]) => (i, j)
      | _ => (0, 0)) = p
    rw [hq]
  exact ⟨t, rfl, by rw [e]; exact hq, e⟩
theorem rep_pairs {K : PySem.W.Frag} {G : Gi} {w : Wd} {H : Hp} {μ : Mu} (C : Cok K G w H μ) : ∀ {l : List (Int × Int)} {vs : List V}, RepL K G w (l.map eP) vs → vs.map (keyP H) = l ∧ ∀ v ∈ vs, (∃ t, v = V.ref t ∧ H t = some (.tup [.int (keyP H v).1, .int (keyP H v).2])) ∧ Rep K G w (eP (keyP H v)) v
  | [], vs, h => by
    cases (show vs = [] from h)
    exact ⟨rfl, fun v hv => by cases hv⟩
  | p :: l, vs, h => by
    obtain ⟨v, us, rfl, rv, rr⟩ := h
    obtain ⟨ih1, ih2⟩ := rep_pairs C rr
    obtain ⟨t, e1, e2, e3⟩ := rep_pair C rv
    refine ⟨by rw [List.map_cons, e3, ih1], fun u hu => ?_⟩
    rcases List.mem_cons.mp hu with rfl | hu
    · exact ⟨⟨t, e1, e2⟩, by rw [e3]; exact rv⟩
    · exact ih2 u hu
theorem rep_keys {K : PySem.W.Frag} {G : Gi} {w : Wd} {H : Hp} : ∀ {ys : List V}, (∀ v ∈ ys, Rep K G w (eP (keyP H v)) v) → RepL K G w ((ys.map (keyP H)).map eP) ys
  | [], _ => rfl
  | y :: ys, h => ⟨y, ys, rfl, h y (List.mem_cons_self ..), rep_keys fun v hv => h v (List.mem_cons_of_mem _ hv)⟩
theorem repL_strs {K : PySem.W.Frag} {G : Gi} {w : Wd} : ∀ (ns : List Str), RepL K G w (ns.map D.str) (ns.map V.str)
  | [] => rfl
  | n :: ns => ⟨_, _, rfl, rfl, repL_strs ns⟩
/-- a built-in function of values -/
def rBi (K : PySem.W.Frag) (G : Gi) (b : Bi) : List V → Hp → VK → Prop := fun xs H Q => ∃ w μ as d us, Cok K G w H μ ∧ xs = us ++ biTail b ∧ RepBs K G true w H as us ∧ biD b μ as = some d ∧ Ans K G w H μ d Q
theorem biZ (hc : X.calm = true) (b : Bi) : CallR X (biVal b) (rBi X.K G b) := by
  intro pins s σ H xs us Q I r h
  obtain ⟨w, μ, as, d, ys, C, ex, rs, e, k⟩ := h
  unfold biD at e
  split at e
  · -- len
    rename_i a0
    obtain ⟨v, rfl, ra⟩ := rs.one
    cases z : lenD μ a0 with
    | none => rw [z] at e; cases e
    | some n =>
      rw [z] at e
      cases e
      subst ex
      refine call_len pins s σ H _ us Q I r ⟨v, n, rfl, ?_, k.here C rfl⟩
      unfold lenD at z
      split at z
      · obtain ⟨e1, e2⟩ := ite_some z
        cases (show v = V.str _ from ra)
        exact ⟨fits_le e1, e2.symm⟩
      · obtain ⟨p, vs, rfl, q, rr⟩ := RepB.tup C ra
        cases z
        exact .inr ⟨vs, SqT.of q, rr.length.symm⟩
      · cases y : Z.asL μ a0 with
        | none => rw [y] at z; cases z
        | some ds =>
          rw [y] at z
          cases z
          obtain ⟨p, vs, rfl, q, rr⟩ := RepB.asL C y ra
          exact .inl ⟨vs, q, rr.length.symm⟩
  · obtain ⟨v, rfl, ra⟩ := rs.one
    cases e
    subst ex
    exact call_int1 pins s σ H _ us Q I r (.inl ⟨_, by rw [show v = V.int _ from ra]; rfl, k.here C rfl⟩)
  · obtain ⟨v, rfl, ra⟩ := rs.one
    cases e
    subst ex
    exact call_int1 pins s σ H _ us Q I r (.inr ⟨_, by rw [show v = V.bl _ from ra]; rfl, k.here C rfl⟩)
  · -- sum
    rename_i a0
    obtain ⟨v, rfl, ra⟩ := rs.one
    cases y : Z.asL μ a0 with
    | none => rw [y] at e; cases e
    | some ds =>
      rw [y] at e
      cases z : intsD ds with
      | none => rw [show (some ds).bind intsD = none from z] at e; cases e
      | some l =>
        rw [show (some ds).bind intsD = some l from z] at e
        cases e
        obtain ⟨p, vs, rfl, q, rr⟩ := RepB.asL C y ra
        have ev := rr.intsOf z
        subst ev
        subst ex
        exact cr_sum hc pins s σ H _ us Q I r ⟨p, l, rfl, q, k.here C rfl⟩
  · -- min
    rename_i a0
    obtain ⟨v, rfl, ra⟩ := rs.one
    split at e
    · rename_i m r0 hm
      cases e
      cases y : Z.asL μ a0 with
      | none => rw [y] at hm; cases hm
      | some ds =>
        rw [y] at hm
        obtain ⟨p, vs, rfl, q, rr⟩ := RepB.asL C y ra
        have ev := rr.intsOf (show intsD ds = some (m :: r0) from hm)
        subst ev
        subst ex
        refine cr_min hc pins s σ H _ us Q I r ⟨p, m :: r0, rfl, q, by simp, fun m' h1 h2 => ?_⟩
        obtain ⟨g1, g2, g3⟩ := minI_le r0 m
        have : m' = minI m r0 := by
          have a1 : minI m r0 ≤ m' := by
            rcases List.mem_cons.mp h1 with rfl | h1
            · exact g1
            · exact g2 _ h1
          have a2 : m' ≤ minI m r0 := h2 _ (by
            rcases g3 with g3 | g3
            · rw [g3]; exact List.mem_cons_self
            · exact List.mem_cons_of_mem _ g3)
          omega
        rw [this]
        exact k.here C rfl
    · cases e
  · -- max
    rename_i a0
    obtain ⟨v, rfl, ra⟩ := rs.one
    split at e
    · rename_i m r0 hm
      cases e
      cases y : Z.asL μ a0 with
      | none => rw [y] at hm; cases hm
      | some ds =>
        rw [y] at hm
        obtain ⟨p, vs, rfl, q, rr⟩ := RepB.asL C y ra
        have ev := rr.intsOf (show intsD ds = some (m :: r0) from hm)
        subst ev
        subst ex
        refine cr_max hc pins s σ H _ us Q I r ⟨p, m :: r0, rfl, q, by simp, fun m' h1 h2 => ?_⟩
        obtain ⟨g1, g2, g3⟩ := maxI_le r0 m
        have : m' = maxI m r0 := by
          have a1 : m' ≤ maxI m r0 := by
            rcases List.mem_cons.mp h1 with rfl | h1
            · exact g1
            · exact g2 _ h1
          have a2 : maxI m r0 ≤ m' := h2 _ (by
            rcases g3 with g3 | g3
            · rw [g3]; exact List.mem_cons_self
            · exact List.mem_cons_of_mem _ g3)
          omega
        rw [this]
        exact k.here C rfl
    · cases e
  · obtain ⟨v, u, rfl, ra, rb⟩ := rs.two
    cases e
    subst ex
    exact call_max2 hc pins s σ H _ us Q I r ⟨_, _, by rw [show v = V.int _ from ra, show u = V.int _ from rb]; rfl, k.here C rfl⟩
  · obtain ⟨v, u, rfl, ra, rb⟩ := rs.two
    cases e
    subst ex
    exact call_min2 hc pins s σ H _ us Q I r ⟨_, _, by rw [show v = V.int _ from ra, show u = V.int _ from rb]; rfl, k.here C rfl⟩
  · obtain ⟨v, rfl, ra⟩ := rs.one
    cases e
    subst ex
    exact call_abs pins s σ H _ us Q I r ⟨_, by rw [show v = V.int _ from ra]; rfl, k.here C rfl⟩
  · obtain ⟨v, rfl, ra⟩ := rs.one
    obtain ⟨e1, e2⟩ := ite_some e
    subst e2
    subst ex
    exact call_str_int pins s σ H _ us Q I r ⟨_, by rw [show v = V.int _ from ra]; rfl, of_decide_eq_true e1, k.here C rfl⟩
  · obtain ⟨v, rfl, ra⟩ := rs.one
    cases e
    subst ex
    exact SkE.call_str_str pins s σ H _ us Q I r ⟨_, by rw [show v = V.str _ from ra]; rfl, k.here C rfl⟩
  · -- isinstance
    rename_i t a0
    obtain ⟨v, rfl, ra⟩ := rs.one
    obtain ⟨e1, e2⟩ := ite_some e
    subst e2
    subst ex
    obtain ⟨a, tx, hm, ek⟩ := isi_ok (t := t) C ra e1
    exact call_isi pins s σ H _ us Q I r ⟨v, .ty (tyStr t), .type a, .type (tyStr t), kitTy t a, rfl, .ty _, tx, kit_all X.K t a hm, by rw [ek]; exact k.here C rfl⟩
  · rename_i a0
    obtain ⟨v, rfl, ra⟩ := rs.one
    cases y : Z.asL μ a0 with
    | none => rw [y] at e; cases e
    | some ds =>
      rw [y] at e
      cases z : blsD ds with
      | none => rw [show (some ds).bind blsD = none from z] at e; cases e
      | some l =>
        rw [show (some ds).bind blsD = some l from z] at e
        cases e
        obtain ⟨p, vs, rfl, q, rr⟩ := RepB.asL C y ra
        have ev := rr.blsOf z
        subst ev
        subst ex
        exact cr_all hc pins s σ H _ us Q I r ⟨p, l, rfl, q, k.here C rfl⟩
  · rename_i a0
    obtain ⟨v, rfl, ra⟩ := rs.one
    cases y : Z.asL μ a0 with
    | none => rw [y] at e; cases e
    | some ds =>
      rw [y] at e
      cases z : blsD ds with
      | none => rw [show (some ds).bind blsD = none from z] at e; cases e
      | some l =>
        rw [show (some ds).bind blsD = some l from z] at e
        cases e
        obtain ⟨p, vs, rfl, q, rr⟩ := RepB.asL C y ra
        have ev := rr.blsOf z
        subst ev
        subst ex
        exact cr_any hc pins s σ H _ us Q I r ⟨p, l, rfl, q, k.here C rfl⟩
  · -- sorted
    rename_i a0
    obtain ⟨v, rfl, ra⟩ := rs.one
    subst ex
    cases y : Z.asL μ a0 with
    | none => rw [y] at e; cases e
    | some ds =>
      rw [y] at e
      have e' : (sortD ds).map D.lst = some d := e
      obtain ⟨p, vs, rfl, q, rr⟩ := RepB.asL C y ra
      unfold sortD at e'
      split at e'
      · rename_i l hl
        cases e'
        have ev := rr.intsOf hl
        subst ev
        refine cr_sortedI pins s σ H _ us Q I r ⟨p, l, rfl, q, fun ns' p' hp hs hn => ?_⟩
        have : ns' = isrt leI l := isrt_eq leI_tot hp (hs.imp fun h => decide_eq_true h)
        rw [this]
        exact k.newL C (RepL.ofInts _) p' hn
      · split at e'
        · rename_i l hl
          cases e'
          have ed := prsD_map hl
          subst ed
          obtain ⟨k1, k2⟩ := rep_pairs C rr
          refine cr_sortedPO pins s σ H _ us Q I r ⟨p, vs, keyP H, rfl, q, fun x hx => (k2 x hx).1, fun ys p' hs hb hn => ?_⟩
          have hpm : (ys.map (keyP H)).Perm l := by
            have := hb.perm.map (keyP H)
            rw [k1] at this
            exact this
          have hsr : (ys.map (keyP H)).Pairwise (fun a b => leP a b = true) := by
            rw [List.pairwise_map]
            refine List.Pairwise.imp (fun {x y} h => ?_) hs
            have h' : SrtO.lexB (keyP H y) (keyP H x) = false := h
            rw [leP_iff]
            by_cases z : SrtO.lexB (keyP H y) (keyP H x) = true
            · rw [z] at h'; cases h'
            · rw [SrtO.lexB_iff] at z
              omega
          have e2 := isrt_eq leP_tot hpm hsr
          have r2 : RepL X.K G w ((ys.map (keyP H)).map eP) ys := rep_keys fun v hv => (k2 v (hb.perm.subset hv)).2
          rw [e2] at r2
          exact k.newL C r2 p' hn
        · split at e'
          · rename_i l hl
            cases hz : decide (l.length < 64) with
            | false => rw [hz] at e'; cases e'
            | true =>
              rw [hz] at e'
              cases e'
              have ev := rr.strsOf hl
              subst ev
              refine cr_sortedS pins s σ H _ us Q I r ⟨p, l, rfl, q, of_decide_eq_true hz, fun ys p' hp hs hn => ?_⟩
              have : ys = isrt leS l := isrt_eq leS_tot hp (sortedS_all ys hs)
              rw [this]
              exact k.newL C (repL_strs _) p' hn
          · cases e'
  · -- tuple
    rename_i a0
    obtain ⟨v, rfl, ra⟩ := rs.one
    subst ex
    cases y : Z.asL μ a0 with
    | none => rw [y] at e; cases e
    | some ds =>
      rw [y] at e
      cases e
      obtain ⟨p, vs, rfl, q, rr⟩ := RepB.asL C y ra
      exact call_tuple_of pins s σ H _ us Q I r ⟨p, vs, rfl, .inl ⟨q, fun l hl => k.newT C rr l hl⟩⟩
  · cases e
end
end Z

/-! Z5: which text an IR stands for (checked), and that the machine does what the IR means: expressions. -/
namespace Z
open PySem PySem.Spec PyProof.Rows L2

/-! ### posts -/
structure Ent where
  H : Hp
  w : Wd
def Post {α : Type} (A : α → Mu → Prop) (E : Nat → Option D → Mu → Prop) : R α → Prop
  | .ok a μ => A a μ
  | .ex c a μ => E c a μ
  | .bad => False
theorem Post.bind {α β : Type} {A : α → Mu → Prop} {A' : β → Mu → Prop} {E : Nat → Option D → Mu → Prop} {r : R α} {k : α → Mu → R β} (P : Post A' E (r.bind k)) (h : ∀ a μ, r = .ok a μ → Post A' E (k a μ) → A a μ) : Post A E r := by
  cases r with
  | ok a μ => exact h a μ rfl P
  | ex c a μ => exact P
  | bad => exact P
/-- an exception of the class c -/
def ExcAt (K : PySem.W.Frag) (G : Gi) (w : Wd) (H : Hp) (c : Nat) (a : Option D) (cls : Value) (dd : Option Addr) : Prop :=
  cls = .ref (clsA K G c) ∧ match a with
    | none => True
    | some d => ∃ p v, dd = some p ∧ H p = some (.xd [("value", v)]) ∧ Rep K G w d v
def ExP (K : PySem.W.Frag) (G : Gi) (H : Hp) (w : Wd) (E : XK) (c : Nat) (a : Option D) (μ : Mu) : Prop := ∀ cls dd H' w', Step H w H' w' → Cok K G w' H' μ → ExcAt K G w' H' c a cls dd → E cls dd H'
def PostE (K : PySem.W.Frag) (G : Gi) (m : Bool) (H : Hp) (w : Wd) (Q : VK) (E : XK) : R D → Prop := Post (fun d μ => ∀ v H' w', Step H w H' w' → Cok K G w' H' μ → RepM K G m w' H' d v → Q v H') (ExP K G H w E)
def PostA (K : PySem.W.Frag) (G : Gi) (m : Bool) (H : Hp) (w : Wd) (Q : List V → Hp → Prop) (E : XK) : R (List D) → Prop := Post (fun ds μ => ∀ vs H' w', Step H w H' w' → Cok K G w' H' μ → RepBs K G m w' H' ds vs → Q vs H') (ExP K G H w E)
def PostT (K : PySem.W.Frag) (G : Gi) (H : Hp) (w : Wd) (Q : Bool → Hp → Prop) (E : XK) : R Bool → Prop := Post (fun k μ => ∀ H' w', Step H w H' w' → Cok K G w' H' μ → Q k H') (ExP K G H w E)
def PostO (K : PySem.W.Frag) (G : Gi) (H : Hp) (w : Wd) (Q : Option Int → Hp → Prop) (E : XK) : R (Option Int) → Prop := Post (fun k μ => ∀ H' w', Step H w H' w' → Cok K G w' H' μ → Q k H') (ExP K G H w E)
/-- a new list that is nobody's yet -/
structure Fresh (K : PySem.W.Frag) (G : Gi) (H : Hp) (w' : Wd) (H' : Hp) (ds : List D) (p : Addr) : Prop where
  at_ : ∃ vs, H' p = some (.lst vs) ∧ RepL K G w' ds vs
  new : H p = none
  na : p ∉ w'.α
  nf : w'.F p = none
def PostN (K : PySem.W.Frag) (G : Gi) (H : Hp) (w : Wd) (Q : VK) (E : XK) : R (List D) → Prop := Post (fun ds μ => ∀ p H' w', Step H w H' w' → Cok K G w' H' μ → Fresh K G H w' H' ds p → Q (.ref p) H') (ExP K G H w E)
theorem Step.none {H H' : Hp} {w w' : Wd} (s : Step H w H' w') {p : Addr} (h : H' p = none) : H p = none := by
  cases e : H p with
  | none => rfl
  | some o =>
    obtain ⟨o', e'⟩ := s.t p o e
    rw [h] at e'
    cases e'
section
variable {K : PySem.W.Frag} {G : Gi} {H H1 : Hp} {w w1 : Wd} {E : XK}
theorem ExP.shift (s : Step H w H1 w1) {c : Nat} {a : Option D} {μ : Mu} (h : ExP K G H w E c a μ) : ExP K G H1 w1 E c a μ := fun cls dd H' w' s' C x => h cls dd H' w' (s.trans s') C x
theorem PostE.shift {m : Bool} {Q : VK} (s : Step H w H1 w1) {r : R D} (h : PostE K G m H w Q E r) : PostE K G m H1 w1 Q E r := by
  cases r with
  | ok a μ => exact fun v H' w' s' C r => h v H' w' (s.trans s') C r
  | ex c a μ => exact ExP.shift s h
  | bad => exact h
theorem PostA.shift {m : Bool} {Q : List V → Hp → Prop} (s : Step H w H1 w1) {r : R (List D)} (h : PostA K G m H w Q E r) : PostA K G m H1 w1 Q E r := by
  cases r with
  | ok a μ => exact fun v H' w' s' C r => h v H' w' (s.trans s') C r
  | ex c a μ => exact ExP.shift s h
  | bad => exact h
theorem PostT.shift {Q : Bool → Hp → Prop} (s : Step H w H1 w1) {r : R Bool} (h : PostT K G H w Q E r) : PostT K G H1 w1 Q E r := by
  cases r with
  | ok a μ => exact fun H' w' s' C => h H' w' (s.trans s') C
  | ex c a μ => exact ExP.shift s h
  | bad => exact h
theorem PostO.shift {Q : Option Int → Hp → Prop} (s : Step H w H1 w1) {r : R (Option Int)} (h : PostO K G H w Q E r) : PostO K G H1 w1 Q E r := by
  cases r with
  | ok a μ => exact fun H' w' s' C => h H' w' (s.trans s') C
  | ex c a μ => exact ExP.shift s h
  | bad => exact h
theorem PostN.shift {Q : VK} (s : Step H w H1 w1) {r : R (List D)} (h : PostN K G H w Q E r) : PostN K G H1 w1 Q E r := by
  cases r with
  | ok a μ => exact fun p H' w' s' C f => h p H' w' (s.trans s') C ⟨f.at_, s.none f.new, f.na, f.nf⟩
  | ex c a μ => exact ExP.shift s h
  | bad => exact h
end

/-! ### slots -/
def SlotAt (K : PySem.W.Frag) (G : Gi) (B : Ent) (w : Wd) (H : Hp) (x : Option (Option V)) : Slot → Prop
  | .emp => True
  | .val d => ∃ v, x = some (some v) ∧ Rep K G w d v
  | .own ds => ∃ a vs, x = some (some (.ref a)) ∧ H a = some (.lst vs) ∧ RepL K G w ds vs ∧ a ∉ w.α ∧ w.F a = none ∧ B.H a = none
structure Sok (K : PySem.W.Frag) (G : Gi) (B : Ent) (w : Wd) (H : Hp) (σ : L2.St) (ρ : Rho) : Prop where
  len : σ.length = ρ.length
  slot : ∀ (i : Nat) (s : Slot), ρ[i]? = some s → SlotAt K G B w H σ[i]? s
  apart : ∀ (i j : Nat) (xs ys : List D), ρ[i]? = some (.own xs) → ρ[j]? = some (.own ys) → σ[i]? = σ[j]? → i = j
  st : Step B.H B.w H w
section
variable {K : PySem.W.Frag} {G : Gi} {B : Ent} {H H1 : Hp} {w w1 : Wd} {σ : L2.St} {ρ : Rho}
theorem Sok.step (S : Sok K G B w H σ ρ) (s : Step H w H1 w1) : Sok K G B w1 H1 σ ρ := by
  refine ⟨S.len, fun i t e => ?_, S.apart, S.st.trans s⟩
  have h := S.slot i t e
  cases t with
  | emp => trivial
  | val d =>
    obtain ⟨v, h1, h2⟩ := h
    exact ⟨v, h1, Rep.le s.le d h2⟩
  | own ds =>
    obtain ⟨a, vs, h1, h2, h3, h4, h5, h6⟩ := h
    exact ⟨a, vs, h1, s.h _ _ h2 h4, RepL.le s.le ds h3, fun m => h4 (s.na _ _ h2 m), by rw [s.nf _ _ h2]; exact h5, h6⟩
end

/-! ### the static context, what an IR stands for -/
structure SC where
  N : List Str
  sc : Scope
  all : Bool
  blk : List (Str × NameKind)
/-- what is known of the module -/
structure Gs extends Gi where
  free : List Str
  con : List (Str × D)
def vis (S : SC) (x : Str) : Bool := match S.sc.names.lookup x with
  | some .local => true
  | some .cell => true
  | some .free => true
  | _ => false
def isGl (S : SC) (x : Str) : Bool := S.sc.names.lookup x == some .globalImplicit
def sto (S : SC) (x : Str) : Bool := match S.sc.names.lookup x with
  | some .local => true
  | some .cell => S.all || (S.blk.lookup x == some .cell)
  | _ => false
def plainNm (x : Str) : Bool := !(x == ("__debug__" : Str)) && !(x == ("__classdict__" : Str))
def slotB (S : SC) (i : Nat) (x : Str) : Bool := S.N[i]? == some x
def cstB : D → Const → Bool
  | .non, .none => true
  | .bl b, .bool c => b == c
  | .int i, .int j => i == j
  | .str x, .str y => x == y
  | _, _ => false
def dEq0 : D → D → Bool
  | .int i, .int j => i == j
  | .str x, .str y => x == y
  | _, _ => false
def conB (G : Gs) (x : Str) (d : D) : Bool := G.con.any fun p => p.1 == x && dEq0 p.2 d
def freeB (G : Gs) (S : SC) (x : Str) : Bool := isGl S x && G.free.contains x && !(x == ("__debug__" : Str)) && !(x == ("__name__" : Str))
def fnB (G : Gs) (S : SC) (f : Nat) (x : Str) : Bool := isGl S x && !(x == ("__debug__" : Str)) && (match G.fns[f]? with
  | some fi => fi.d.at_ == (x, none)
  | none => false)
def clsB (G : Gs) (S : SC) (c : Nat) (x : Str) : Bool := isGl S x && !(x == ("__debug__" : Str)) && (match G.cs[c]? with
  | some ci => G.nm ci.nm == x
  | none => false)
def nmB (G : Gs) (f : Nat) (x : Str) : Bool := G.nms[f]? == some x
def baseB : Expr → Bool
  | .Call (.Name _ _) [] [] _ => false
  | _ => true
def plainT : Expr → Bool
  | .UnaryOp .Not _ _ => false
  | .BoolOp _ _ _ => false
  | .IfExp _ _ _ _ => false
  | .Compare _ _ _ _ => false
  | _ => true
def notSl : Expr → Bool
  | .Slice _ _ _ _ => false
  | _ => true
def isTup : Expr → Bool
  | .Tuple _ _ _ => true
  | _ => false
def bmName : Bm → Str
  | .join => "join"
  | .bits => "bit_length"
  | .index => "index"
def ownOf (S : SC) (ws : List Nat) : List (Str × Nat) := ws.map fun i => (match S.N[i]? with
  | some x => x
  | none => "", i)
def inner (S : SC) (scope : Scope) : SC := { S with sc := relS scope S.sc, all := false, blk := scope.names }
def tailB (G : Gs) (S : SC) (b : Bi) (es : List Expr) : Bool := match b, es with
  | .isi t, [.Name x _] => x == tyName t && freeB G S x
  | .isi _, _ => false
  | _, [] => true
  | _, _ => false
def bmB : Bm → Exs → Bool
  | .join, es => !es.isNil
  | .bits, es => es.isNil
  | .index, es => match es with
    | .cons _ .nil => true
    | _ => false
def rngB : Exs → Bool
  | .cons _ .nil => true
  | .cons _ (.cons _ .nil) => true
  | .cons _ (.cons _ (.cons _ .nil)) => true
  | _ => false
def rng2B : Exs → Bool
  | .cons _ .nil => true
  | .cons _ (.cons _ .nil) => true
  | _ => false
def isCmp : Expr → Bool
  | .Compare _ _ _ _ => true
  | _ => false
def Tes.isNil : Tes → Bool
  | .nil => true
  | .cons _ _ => false
section
variable (G : Gs)
mutual
def agE : Ex → SC → Expr → Bool
  | .var i, S, .Name x _ => slotB S i x && vis S x && plainNm x
  | .cst d, _, .Constant c _ _ => cstB d c
  | .gbl x d, S, .Name y _ => x == y && isGl S x && !(x == ("__debug__" : Str)) && conB G x d
  | .bin o a b, S, .BinOp x p y _ => decide (o = p) && agE a S x && agE b S y
  | .neg a, S, .UnaryOp .USub x _ => agE a S x
  | .not a, S, .UnaryOp .Not x _ => agE a S x
  | .bop o es, S, .BoolOp p xs _ => decide (o = p) && !es.isNil && agEs es S xs
  | .cmp o a b, S, .Compare x [p] [y] _ => decide (o = p) && agE a S x && agE b S y
  | .chn o q a b c, S, .Compare x [p, p'] [y, z] _ => decide (o = p) && decide (q = p') && agE a S x && agE b S y && agE c S z
  | .ite t a b, S, .IfExp x y z _ => agT t S x && agE a S y && agE b S z
  | .tup es, S, .Tuple xs _ _ => agEs es S xs
  | .new n, S, e => agN n S e
  | .cel n, S, e => agN n S e
  | .idx a i, S, .Subscript x y _ => agE a S x && agE i S y && notSl y
  | .slc a lo hi, S, .Subscript x (.Slice l h none _) _ => agE a S x && agO lo S l && agO hi S h
  | .att a f, S, .Attribute x nm _ => nmB G f nm && agE a S x && baseB x
  | .call f es, S, .Call (.Name x _) xs [] _ => fnB G S f x && agEs es S xs
  | .meth a m es, S, .Call (.Attribute x nm ap) xs [] cp => nmB G m nm && agE a S x && baseB x && ap.endLine == cp.line && decide (xs.length < 29) && agEs es S xs
  | .make c es, S, .Call (.Name x _) xs [] _ => clsB G S c x && agEs es S xs
  | .blt b es, S, .Call (.Name x _) xs [] _ => x == biName b && freeB G S x && !es.isNil && agEs es S (xs.take (biNum b)) && tailB G S b (xs.drop (biNum b))
  | .bmt b a es, S, .Call (.Attribute x nm ap) xs [] cp => bmB b es && nm == bmName b && agE a S x && baseB x && ap.endLine == cp.line && decide (xs.length < 29) && agEs es S xs
  | .rev a, S, .Subscript x (.Slice none none (some (.UnaryOp .USub (.Constant (.int j) _ _) _)) _) _ => j == 1 && agE a S x
  | .lrg es, S, .Call (.Name x _) [.Call (.Name y _) xs [] _] [] _ => x == ("list" : Str) && freeB G S x && (y == ("range" : Str) && freeB G S y) && (rng2B es && agEs es S xs)
  | .is2 t u e, S, .Call (.Name x _) [y, .Tuple [.Name a _, .Name b _] _ _] [] _ => x == ("isinstance" : Str) && freeB G S x && (a == tyName t && freeB G S a) && (b == tyName u && freeB G S b && agE e S y)
  | _, _, _ => false
def agEs : Exs → SC → List Expr → Bool
  | .nil, _, [] => true
  | .cons e es, S, x :: xs => agE e S x && agEs es S xs
  | _, _, _ => false
def agT : Te → SC → Expr → Bool
  | .val e, S, x => (plainT x || isCmp x) && agE e S x
  | .not t, S, .UnaryOp .Not x _ => agT t S x
  | .bop o ts, S, .BoolOp p xs _ => decide (o = p) && !ts.isNil && agTs ts S xs
  | _, _, _ => false
def agTs : Tes → SC → List Expr → Bool
  | .nil, _, [] => true
  | .cons e es, S, x :: xs => agT e S x && agTs es S xs
  | _, _, _ => false
def agN : Nw → SC → Expr → Bool
  | .dis es, S, .List xs _ => agEs es S xs
  | .cat a b, S, .BinOp x .Add y _ => agE a S x && agE b S y
  | .rep a b, S, .BinOp x .Mult y _ => agE a S x && agE b S y
  | .slc a lo hi, S, .Subscript x (.Slice l h none _) _ => agE a S x && agO lo S l && agO hi S h
  | .lof a, S, .Call (.Name x _) [y] [] _ => x == ("list" : Str) && freeB G S x && agE a S y
  | .cmp ws elt t w c, S, .ListComp e [⟨tg, it, ifs, k⟩] scope _ => decide (k = 0) && blkC S.N S.sc scope (ownOf S ws) && t.slots.all ws.contains && agW w S it tg && agG t (inner S scope) tg && agC c (inner S scope) ifs && agE elt (inner S scope) e
  | _, _, _ => false
def agO : Oe → SC → Option Expr → Bool
  | .no, _, none => true
  | .so e, S, some x => agE e S x
  | _, _, _ => false
def agC : Oe → SC → List Expr → Bool
  | .no, _, [] => true
  | .te t, S, [x] => agT t S x
  | _, _, _ => false
def agW : Wk → SC → Expr → Expr → Bool
  | .lst e, S, x, _ => agE e S x
  | .tup e, S, x, _ => agE e S x
  | .str e, S, x, _ => agE e S x
  | .rng es, S, .Call (.Name x _) xs [] _, _ => rngB es && x == ("range" : Str) && freeB G S x && agEs es S xs
  | .enu e, S, .Call (.Name x _) [y] [] _, tg => x == ("enumerate" : Str) && freeB G S x && isTup tg && agE e S y
  | .zip a b, S, .Call (.Name x _) [y, z] [] _, tg => x == ("zip" : Str) && freeB G S x && isTup tg && (agE a S y && agE b S z)
  | _, _, _, _ => false
def agG : Tg → SC → Expr → Bool
  | .nam i, S, .Name x _ => slotB S i x && sto S x
  | .tup ts, S, .Tuple xs _ _ => agGs ts S xs
  | _, _, _ => false
def agGs : Tgs → SC → List Expr → Bool
  | .nil, _, [] => true
  | .cons t ts, S, x :: xs => agG t S x && agGs ts S xs
  | _, _, _ => false
end
end
end Z

/-! Z6: calls whose exceptions are wished for at the caller's slots; what a def promises by its meaning. -/
namespace Z
open PySem PySem.Spec PyProof.Rows L2

theorem PE.imp {X : Cx} {e : Expr} {t t' : TE} (h : PE X e t) (hi : ∀ σ H Q, t' σ H Q → t σ H Q) : PE X e t' := ⟨fun pins s σ H Q I z => h.run pins s σ H Q I (hi σ H Q z)⟩
theorem PT.imp {X : Cx} {e : Expr} {t t' : TT} (h : PT X e t) (hi : ∀ σ H Q, t' σ H Q → t σ H Q) : PT X e t' := ⟨fun pins s σ H Q I z => h.run pins s σ H Q I (hi σ H Q z)⟩
theorem PA.imp {X : Cx} {e : List Expr} {t t' : TA} (h : PA X e t) (hi : ∀ σ H Q, t' σ H Q → t σ H Q) : PA X e t' := ⟨fun pos pins s σ H Q I z => h.run pos pins s σ H Q I (hi σ H Q z)⟩
theorem PS.imp {X : Cx} {e : Stmt} {t t' : TS} (h : PS X e t) (hi : ∀ D σ H, t' D σ H → t D σ H) : PS X e t' := ⟨fun pins s σ H Q I z => h.run pins s σ H Q I (hi Q σ H z)⟩
theorem PSs.imp {X : Cx} {e : List Stmt} {t t' : TS} (h : PSs X e t) (hi : ∀ D σ H, t' D σ H → t D σ H) : PSs X e t' := ⟨fun pins s σ H Q I z => h.run pins s σ H Q I (hi Q σ H z)⟩

/-! ### heads of expressions -/
def hdOk : Expr → Bool
  | .Starred _ _ => false
  | .Slice _ _ _ _ => false
  | .Set _ _ _ => false
  | _ => true
theorem star_ok {e : Expr} {es : List Expr} {env : Env} (h : hdOk e = true) : starEach (e :: es) env = (false, eval e env) :: starEach es env := by
  cases e <;> first | rfl | cases h
theorem folded_ok {e : Expr} {env : Env} (h : hdOk e = true) : ∀ x, foldedSetIterable e env x = pure x := by
  intro x
  cases e <;> first | rfl | cases h
theorem marks_ok {e : Expr} {o : CmpOp} (h : hdOk e = true) : behindInMarks o e = false := by
  cases e <;> first | rfl | cases h
theorem base_ok {e : Expr} {nm : Str} {env : Env} {wh : Sem Value} (h : baseB e = true) : attributeBase e nm env wh = wh := by
  cases e with
  | Call f as ks p =>
    cases f with
    | Name x q =>
      cases as with
      | nil =>
        cases ks with
        | nil => cases h
        | cons _ _ => rfl
      | cons _ _ => rfl
    | _ => rfl
  | _ => rfl
theorem plainT_ok {e : Expr} {env : Env} (h : plainT e = true) : ∀ wh, isTrue e env wh = (do let v ← wh; standAt e.pos; holding [v] (truthy v)) := by
  intro wh
  cases e with
  | UnaryOp o a p =>
    cases o with
    | Not => cases h
    | _ => rfl
  | BoolOp _ _ _ => cases h
  | IfExp _ _ _ _ => cases h
  | Compare _ _ _ _ => cases h
  | _ => rfl
theorem notSl_ok {e : Expr} (h : notSl e = true) : PlainIx e := by
  intro o i
  cases e <;> first | rfl | cases h
section
variable {G : Gs}
theorem agE_hd {e : Ex} {S : SC} {x : Expr} (h : agE G e S x = true) : hdOk x = true := by
  cases x with
  | Starred a p => exfalso; cases e with
    | new n => cases n <;> cases h
    | cel n => cases n <;> cases h
    | _ => cases h
  | Slice a b c p => exfalso; cases e with
    | new n => cases n <;> cases h
    | cel n => cases n <;> cases h
    | _ => cases h
  | Set a b c => exfalso; cases e with
    | new n => cases n <;> cases h
    | cel n => cases n <;> cases h
    | _ => cases h
  | _ => rfl
theorem noStar : ∀ {es : Exs} {S : SC} {xs : List Expr} {env : Env} {pos : Pos}, agEs G es S xs = true → (backTo pos (starEach xs env)).any (·.1) = false := by
  intro es S xs env pos h
  have key : ∀ (xs : List Expr) (es : Exs), agEs G es S xs = true → ∀ p ∈ starEach xs env, p.1 = false := by
    intro xs
    induction xs with
    | nil => intro es _ p hp; exact absurd hp (by simp [starEach])
    | cons x r ih =>
      intro es hh p hp
      cases es with
      | nil => cases hh
      | cons e es =>
        have hh' : (agE G e S x && agEs G es S r) = true := hh
        rw [Bool.and_eq_true] at hh'
        rw [star_ok (agE_hd hh'.1)] at hp
        rcases List.mem_cons.mp hp with rfl | hp
        · rfl
        · exact ih es hh'.2 p hp
  have hb : ∀ (l : List (Bool × Sem Value)), (∀ p ∈ l, p.1 = false) → (backTo pos l).any (·.1) = false := by
    intro l hl
    have : ∀ q ∈ backTo pos l, q.1 = false := by
      intro q hq
      unfold backTo at hq
      first
        | (obtain ⟨p, hp, rfl⟩ := List.mem_map.mp hq; exact hl p hp)
        | (simp at hq; obtain ⟨a, b, hp, rfl⟩ := hq; exact hl _ hp)
    exact List.any_eq_false.mpr fun q hq => by rw [this q hq]; simp
  exact hb _ (key xs es h)
end

/-! ### calls -/
section
variable {X : Cx} {CX : CXT} {k : Nat} {f C : Addr} {fd : FuncData} {ps : List Str} {sp : Sp} {ds : List Value} {E : L2.St → XK} {x m : Str} {p pos apos : Pos} {e o : Expr} {es : List Expr} {ta : TE} {t : TA}
theorem pe_callZ0 (F : FnOk X.prog X.w X.K X.mg X.base CX k f fd ps sp) (hr : Room k X.A) (hg : Gl X x) (hm : X.mg x = some (.ref f))
    (hk : PySem.W.keepIn X.K (.ref f) = true) (hb : Binds X.K fd ps []) (hx : ∀ σ, PassesAt CX X σ (E σ)) (hdb : (x == ("__debug__" : Str)) = false) :
    PE X (.Call (.Name x p) [] [] pos) (tCallS sp E tNil) :=
  ⟨fun pins s σ H Q I h => wpAny_Call_Name_kw (ld_glob I hg hm (PySem.W.callWith_K0 I.kIn hk (run_fnS (us := []) F hr hb (hx σ) I .nil h)) hdb)⟩
/-- o.m(..): class, method and promise are told where the receiver has come -/
def tMethD (X : Cx) (m : Str) (j : Nat) (E : L2.St → XK) (ta : TE) (t : TA) : TE := fun σ H Q => ta σ H fun x H1 => ∃ (C f : Addr) (fd : FuncData) (ps : List Str) (sp : Sp) (a dx : Addr) (fs : List (Str × V)), x = .ref a ∧ H1 a = some (.ins C dx fs) ∧ Cls X.K C ∧ Meth X.K C m f ∧
  FnOk X.prog X.w X.K X.mg X.base (L2.CX X.prog X.w) j f fd ps sp ∧ Binds X.K fd ps [] ∧ fs.lookup m = none ∧ t σ H1 fun vs H2 => sp (x :: vs) H2 Q (E σ)
theorem form_ok {G : Gs} {es : Exs} {S : SC} {xs : List Expr} {env : Env} (h : agEs G es S xs = true) (hl : xs.length < 29) : methodCallForm (xs.length + ([] : List Keyword).length) (backTo pos (starEach xs env)) (backToKw pos (keywordEach [] env)) = true := by
  have ns := noStar (env := env) (pos := pos) h
  unfold methodCallForm
  rw [Bool.and_eq_true, Bool.and_eq_true]
  refine ⟨⟨List.all_eq_true.mpr fun q hq => ?_, rfl⟩, ?_⟩
  · have := List.any_eq_false.mp ns q hq
    simpa using this
  · exact decide_eq_true (by
      show xs.length + 0 + 0 < 30
      omega)
theorem meth_eval {xs : List Expr} {env : Env} (hb : attributeBase o m env (eval o env) = eval o env) (hl : (apos.endLine == pos.line) = true)
    (hf : methodCallForm (xs.length + ([] : List Keyword).length) (backTo pos (starEach xs env)) (backToKw pos (keywordEach [] env)) = true) :
    eval (.Call (.Attribute o m apos) xs [] pos) env = (do
      let ov ← eval o env
      standAt apos.atName
      let fx ← holding [ov] (getMethod ov m (do return (← importBound o env).getD true))
      callWith pos fx.1 fx.2 (backTo pos (starEach xs env)) (backToKw pos (keywordEach [] env))) := by
  have e1 : eval (.Call (.Attribute o m apos) xs [] pos) env = (do
      let ov ← attributeBase o m env (eval o env)
      standAt apos.atName
      methodCall o m apos pos env ov (xs.length + ([] : List Keyword).length) (backTo pos (starEach xs env)) (backToKw pos (keywordEach [] env))) := by rfl
  have hp : methodCallPos true o env apos pos = pure pos := by
    unfold methodCallPos
    simp [hl]
  rw [e1, hb]
  unfold methodCall calleeOf
  rw [hf, hp]
  simp only [if_true, pure_bind]
theorem pe_methD {y : Expr} {ys : List Expr} (he : PE X o ta) (hr : Room k X.A) (hx : ∀ σ, PassesAt (L2.CX X.prog X.w) X σ (E σ)) (ha : PA X (y :: ys) t)
    (hba : attributeBase o m X.env (eval o X.env) = eval o X.env) (hl : (apos.endLine == pos.line) = true)
    (hf : methodCallForm ((y :: ys).length + ([] : List Keyword).length) (backTo pos (starEach (y :: ys) X.env)) (backToKw pos (keywordEach [] X.env)) = true)
    (h1 : starEach (y :: ys) X.env = (false, eval y X.env) :: starEach ys X.env) (h2 : (backTo pos (starEach ys X.env)).any (·.1) = false) :
    PE X (.Call (.Attribute o m apos) (y :: ys) [] pos) (tMethD X m k E ta t) := by
  refine ⟨fun pins s σ H Q I h => ?_⟩
  rw [meth_eval hba hl hf]
  refine wpAny_bind (thn (he.run pins s σ H _ I h) fun u s1 ⟨x, H1, I1, rx, C, f, fd, ps, sp, a, dx, fs, ex, ea, c, hm, F, hb, l, q⟩ => ?_)
  subst ex
  obtain rfl : u = Value.ref a := rx
  refine wpAny_bind (wpAny_standAt (wpAny_bind (wpAny_holding (getmeth_ok I1 ea c hm l ?_))))
  exact PySem.W.callWith_K (first := [.ref a]) (h₀ := X.base) I1.ok.mod.kin hm.kp (thn (ha.run pos pins s1 σ H1 _ I1 q) fun us s2 ⟨vs, H2, I2, r, q2⟩ =>
    ⟨I2.kIn, run_fnS (us := .ref a :: us) (vs := .ref a :: vs) F hr hb (hx σ) I2 (.cons rfl r) q2⟩) h1 h2
theorem pe_methD0 (he : PE X o ta) (hr : Room k X.A) (hx : ∀ σ, PassesAt (L2.CX X.prog X.w) X σ (E σ)) (hba : attributeBase o m X.env (eval o X.env) = eval o X.env) (hl : (apos.endLine == pos.line) = true) :
    PE X (.Call (.Attribute o m apos) [] [] pos) (tMethD X m k E ta tNil) := by
  refine ⟨fun pins s σ H Q I h => ?_⟩
  rw [meth_eval (xs := []) hba hl rfl]
  refine wpAny_bind (thn (he.run pins s σ H _ I h) fun u s1 ⟨x, H1, I1, rx, C, f, fd, ps, sp, a, dx, fs, ex, ea, c, hm, F, hb, l, q⟩ => ?_)
  subst ex
  obtain rfl : u = Value.ref a := rx
  refine wpAny_bind (wpAny_standAt (wpAny_bind (wpAny_holding (getmeth_ok I1 ea c hm l ?_))))
  exact PySem.W.callWith_K0 (first := [.ref a]) I1.kIn hm.kp (run_fnS (us := [.ref a]) (vs := [.ref a]) F hr hb (hx σ) I1 (.cons rfl .nil) q)
def tMakeZ (C : Addr) (sp : Sp) (E : L2.St → XK) (t : TA) : TE := fun σ H Q => t σ H fun vs H1 => ∀ x dx, H1 x = none → H1 dx = none → dx ≠ x →
  sp (.ref x :: vs) (upd (upd H1 dx (.own x)) x (.ins C dx [])) (fun v H2 => v = .non ∧ Q (.ref x) H2) (E σ)
theorem run_makeZ {pins : List (Addr × Obj)} {σ : L2.St} {H : Hp} {s : Shared} {Q : VK} {us : List Value} {vs : List V} (M : Mk X.K C f) (F : FnOk X.prog X.w X.K X.mg X.base CX k f fd ps sp) (hr : Room (k + 1) X.A)
    (hb : Binds X.K fd ps []) (hx : ∀ σ, PassesAt CX X σ (E σ)) (I : Inv X pins σ H s) (r : Vals vs us)
    (h : ∀ x dx, H x = none → H dx = none → dx ≠ x → sp (.ref x :: vs) (upd (upd H dx (.own x)) x (.ins C dx [])) (fun v H2 => v = .non ∧ Q (.ref x) H2) (E σ)) :
    wpAny (model X.prog X.w) X.A (call (.ref C) us) (EP X pins σ Q) X.xe s := by
  have fr1 : H (s.heap.objs.size + 1) = none := I.hok.fresh (Nat.le_succ _)
  have fr2 : H s.heap.objs.size = none := I.hok.fresh (Nat.le_refl _)
  have h0 := h _ _ fr1 fr2 (Nat.ne_of_lt (Nat.lt_succ_self _))
  have J := Inv.made (C := C) I
  have rv : Vals (V.ref (s.heap.objs.size + 1) :: vs) (Value.ref (s.heap.objs.size + 1) :: us) := .cons rfl r
  have len : (Value.ref (s.heap.objs.size + 1) :: us).length = ps.length := by
    rw [← rv.length]
    exact F.len _ _ _ _ h0
  have bd := hb _ (Value.ref (s.heap.objs.size + 1) :: us) J.kIn (by rw [List.append_nil]; exact len)
  rw [List.append_nil] at bd
  have go := F.run _ X.stack _ _ ⟨Value.ref (s.heap.objs.size + 1) :: us, []⟩ _ _ _ (E σ) (hr.make C us []) (J.env0.make C us []) bd rv h0
  refine wpAny_call (make_map (f := f) I.kIn M.makes M.init (beq_iff_eq.mp M.fn) (codeAny_mono go fun r s' hq => ?_))
  cases r with
  | error e => exact hx σ pins _ _ e s' J hq
  | ok fl =>
    cases fl with
    | ret u =>
      obtain ⟨v, H', I3, rv, ev, q3⟩ := J.after hq
      subst ev
      exact ⟨rv, V.ref (s.heap.objs.size + 1), H', I3, rfl, q3⟩
    | next => exact hq.elim
    | brk => exact hq.elim
    | cont => exact hq.elim
theorem pe_makeZ (M : Mk X.K C f) (F : FnOk X.prog X.w X.K X.mg X.base CX k f fd ps sp) (hr : Room (k + 1) X.A) (hg : Gl X x) (hm : X.mg x = some (.ref C)) (hb : Binds X.K fd ps []) (hx : ∀ σ, PassesAt CX X σ (E σ))
    (ha : PA X (e :: es) t) (hdb : (x == ("__debug__" : Str)) = false) (h1 : starEach (e :: es) X.env = (false, eval e X.env) :: starEach es X.env) (h2 : (backTo pos (starEach es X.env)).any (·.1) = false) :
    PE X (.Call (.Name x p) (e :: es) [] pos) (tMakeZ C sp E t) :=
  ⟨fun pins s σ H Q I h => wpAny_Call_Name_kw (ld_glob I hg hm (PySem.W.callWith_K (h₀ := X.base) I.ok.mod.kin M.kp
    (thn (ha.run pos pins s σ H _ I h) fun us s1 ⟨vs, H1, I1, r, q⟩ => ⟨I1.kIn, run_makeZ M F hr hb hx I1 r q⟩) h1 h2) hdb)⟩
theorem pe_makeZ0 (M : Mk X.K C f) (F : FnOk X.prog X.w X.K X.mg X.base CX k f fd ps sp) (hr : Room (k + 1) X.A) (hg : Gl X x) (hm : X.mg x = some (.ref C)) (hb : Binds X.K fd ps []) (hx : ∀ σ, PassesAt CX X σ (E σ))
    (hdb : (x == ("__debug__" : Str)) = false) : PE X (.Call (.Name x p) [] [] pos) (tMakeZ C sp E tNil) :=
  ⟨fun pins s σ H Q I h => wpAny_Call_Name_kw (ld_glob I hg hm (PySem.W.callWith_K0 I.kIn M.kp (run_makeZ (us := []) M F hr hb hx I .nil h)) hdb)⟩
end
/-! ### what a def promises -/
def spF (K : PySem.W.Frag) (G : Gi) (np : Nat) (φ : List D → Mu → R D) : Sp := fun vs H Q E => ∃ w μ ds, Cok K G w H μ ∧ RepL K G w ds vs ∧ ds.length = np ∧ PostE K G false H w Q E (φ ds μ)
/-- a class whose __init__ only stores its arguments -/
def spI (K : PySem.W.Frag) (G : Gi) (c : Nat) (fl : List Nat) : Sp := fun vs H Q _ => ∃ x dx us, vs = .ref x :: us ∧ us.length = fl.length ∧ H x = some (.ins (clsA K G c) dx []) ∧ Q .non (upd H x (.ins (clsA K G c) dx ((fl.map G.nm).zip us)))
/-- what the head tells of the module -/
structure Fac (G : Gs) (K : PySem.W.Frag) (mg : Str → Option Value) : Prop where
  glo : ∀ (f : Nat) (fi : FI) (x : Str), G.fns[f]? = some fi → fi.d.at_ = (x, none) → mg x = some (.ref (He.fAd K fi.d.at_))
  cls : ∀ (c : Nat) (ci : CI), G.cs[c]? = some ci → Cls K (clsA K G.toGi c) ∧ mg (G.nm ci.nm) = some (.ref (clsA K G.toGi c)) ∧ ∃ fi, G.fns[ci.ini]? = some fi ∧ Mk K (clsA K G.toGi c) (He.fAd K fi.d.at_)
  mth : ∀ (c : Nat) (ci : CI) (m f : Nat), G.cs[c]? = some ci → (m, f) ∈ ci.mts → ∃ fi, G.fns[f]? = some fi ∧ Meth K (clsA K G.toGi c) (G.nm m) (He.fAd K fi.d.at_)
  noat : ∀ (c : Nat) (ci : CI) (f : Nat), G.cs[c]? = some ci → f ∈ ci.fld → NoAttr K (clsA K G.toGi c) (G.nm f)
  free : ∀ x, x ∈ G.free → mg x = none
  con : ∀ x d, (x, d) ∈ G.con → ∃ u v, mg x = some u ∧ RelV v u ∧ (∃ i, d = .int i ∧ v = .int i ∨ ∃ z, d = .str z ∧ v = .str z)
  nmi : G.nms.Nodup ∧ ("" : Str) ∉ G.nms
/-- a def that may be called -/
def Callable (G : Gs) (X : Cx) (n f : Nat) (sp : Sp) : Prop := ∃ fi fd k, G.fns[f]? = some fi ∧ k + 1 ≤ n ∧ FnOk X.prog X.w X.K X.mg X.base (L2.CX X.prog X.w) k (He.fAd X.K fi.d.at_) fd fi.ps sp ∧ Binds X.K fd fi.ps [] ∧ PySem.W.keepIn X.K (.ref (He.fAd X.K fi.d.at_)) = true
structure Cxt (G : Gs) (Φ : Phi) (n : Nat) (X : Cx) (S : SC) (W : WX) : Prop where
  N : X.N = S.N
  nd : X.N.Nodup
  sc : X.env.scope = S.sc
  calm : X.calm = true
  room : Room n X.A
  tk : Takes X W
  st : ∀ x, sto S x = true → X.fn x = true ∨ X.env.scope.names.lookup x = some .local
  fac : Fac G X.K X.mg
  fns : ∀ (f : Nat) (fi : FI), G.fns[f]? = some fi → Callable G X n f (spF X.K G.toGi fi.ps.length (Φ f))
  ini : ∀ (c : Nat) (ci : CI), G.cs[c]? = some ci → ci.frz = true → Callable G X n ci.ini (spI X.K G.toGi c ci.fld)
end Z

/-! Z7: the machine does what the IR means: lemmas for the expressions. -/
namespace Z
open PySem PySem.Spec PyProof.Rows L2

/-- what a loop walks: the items ds, wherever P holds -/
structure Walk (K : PySem.W.Frag) (G : Gi) (J : It) (P : Hp → Wd → Prop) (ds : List D) : Prop where
  go : ∀ (i : Nat) H w, P H w → i < ds.length → J.go i H
  yl : ∀ (i : Nat) H w μ x H', P H w → Cok K G w H μ → J.yld i H x H' → ∀ d, ds[i]? = some d → ∃ w', Step H w H' w' ∧ Cok K G w' H' μ ∧ Rep K G w' d x
  st : ∀ H w, P H w → J.stop ds.length H
def Kp (K : PySem.W.Frag) (G : Gi) (m : Bool) (H0 : Hp) (w0 : Wd) (H : Hp) (w : Wd) : Prop := match m with
  | true => Step H0 w0 H w
  | false => (∃ μ, Cok K G w H μ) ∧ w0.le w
def PostW (K : PySem.W.Frag) (G : Gi) (m : Bool) (H : Hp) (w : Wd) (R : It → Hp → Prop) (E : XK) : Z.R (List D) → Prop := Post (fun ds μ => ∀ J H' w', Step H w H' w' → Cok K G w' H' μ → Walk K G J (Kp K G m H' w') ds → R J H') (ExP K G H w E)

section
variable (K : PySem.W.Frag) (G : Gi) (B : Ent) (W : WX)
def tZ (m : Bool) (g : Rho → Mu → R D) : TE := fun σ H Q => ∃ w ρ μ, Cok K G w H μ ∧ Sok K G B w H σ ρ ∧ PostE K G m H w Q (WE W σ) (g ρ μ)
def tZs (m : Bool) (g : Rho → Mu → R (List D)) : TA := fun σ H Q => ∃ w ρ μ, Cok K G w H μ ∧ Sok K G B w H σ ρ ∧ PostA K G m H w Q (WE W σ) (g ρ μ)
def tZt (g : Rho → Mu → R Bool) : TT := fun σ H Q => ∃ w ρ μ, Cok K G w H μ ∧ Sok K G B w H σ ρ ∧ PostT K G H w Q (WE W σ) (g ρ μ)
def tZo (g : Rho → Mu → R (Option Int)) : TO := fun σ H Q => ∃ w ρ μ, Cok K G w H μ ∧ Sok K G B w H σ ρ ∧ PostO K G H w Q (WE W σ) (g ρ μ)
def tZn (g : Rho → Mu → R (List D)) : TE := fun σ H Q => ∃ w ρ μ, Cok K G w H μ ∧ Sok K G B w H σ ρ ∧ PostN K G H w Q (WE W σ) (g ρ μ)
def tZw (m : Bool) (g : Rho → Mu → R (List D)) : TI := fun σ H Q => ∃ w ρ μ, Cok K G w H μ ∧ Sok K G B w H σ ρ ∧ PostW K G m H w Q (WE W σ) (g ρ μ)
end
section
variable {K : PySem.W.Frag} {G : Gi} {B : Ent} {W : WX} {H H1 : Hp} {w w1 : Wd} {E : XK} {m : Bool}
theorem PostW.shift {Q : It → Hp → Prop} (s : Step H w H1 w1) {r : Z.R (List D)} (h : PostW K G m H w Q E r) : PostW K G m H1 w1 Q E r := by
  cases r with
  | ok a μ => exact fun J H' w' s' C x => h J H' w' (s.trans s') C x
  | ex c a μ => exact ExP.shift s h
  | bad => exact h
/-- an answer of an operator -/
theorem PostE.opt {Q : VK} {o : Option D} {μ : Mu} (P : PostE K G m H w Q E (.opt o μ)) : ∃ d, o = some d ∧ Ans K G w H μ d Q := by
  cases o with
  | none => exact P.elim
  | some d => exact ⟨d, rfl, fun v H' w' s C r => P v H' w' s C (RepM.of C r)⟩
theorem PostE.optb {Q : VK} {o : Option Bool} {μ : Mu} (C : Cok K G w H μ) (P : PostE K G m H w Q E (.opt (o.map .bl) μ)) : ∃ k, o = some k ∧ Q (.bl k) H := by
  cases o with
  | none => exact P.elim
  | some d => exact ⟨d, rfl, P (.bl d) H w (.refl H w) C (by cases m <;> exact rfl)⟩
/-- a fresh list is laid down for ever -/
theorem Fresh.froz {H' : Hp} {w' : Wd} {ds : List D} {p : Addr} {μ : Mu} (f : Fresh K G H w' H' ds p) (s : Step H w H' w') (C : Cok K G w' H' μ) :
    ∃ w2, Step H w H' w2 ∧ Cok K G w2 H' μ ∧ Rep K G w2 (.lst ds) (.ref p) ∧ w'.le w2 := by
  obtain ⟨vs, h1, h2⟩ := f.at_
  have le2 : w'.le ⟨upd w'.F p (.lst vs), w'.α⟩ := ⟨fun b o e => by
    have ne : b ≠ p := fun z => by rw [z, f.nf] at e; cases e
    show upd w'.F p _ b = some o
    rw [upd_ne ne]; exact e, [], by simp⟩
  refine ⟨⟨upd w'.F p (.lst vs), w'.α⟩, ⟨s.le.trans le2, s.h, s.t, fun b o e => ?_, s.na⟩, ⟨fun b o e => ?_, C.len, C.nd, fun a ha => ?_, fun n a c e1 e2 => (C.cel n a c e1 e2).step le2 fun _ z => z⟩, ⟨p, vs, rfl, upd_same, RepL.le le2 ds h2⟩, le2⟩
  · have ne : b ≠ p := fun z => by rw [z, f.new] at e; cases e
    show upd w'.F p _ b = w.F b
    rw [upd_ne ne]; exact s.nf b o e
  · by_cases hb : b = p
    · subst hb
      have e1 : upd w'.F b (.lst vs) b = some o := e
      rw [upd_same] at e1
      rw [← e1]; exact h1
    · have e1 : upd w'.F p (.lst vs) b = some o := e
      rw [upd_ne hb] at e1
      exact C.fz b o e1
  · have ne : a ≠ p := fun z => f.na (z ▸ ha)
    show upd w'.F p _ a = none
    rw [upd_ne ne]; exact C.fa a ha
/-- a fresh list becomes a cell -/
theorem Fresh.cell {H' : Hp} {w' : Wd} {ds : List D} {p : Addr} {μ : Mu} (f : Fresh K G H w' H' ds p) (s : Step H w H' w') (C : Cok K G w' H' μ) :
    ∃ w2, Step H w H' w2 ∧ Cok K G w2 H' (μ ++ [.lst ds]) ∧ Rep K G w2 (.loc μ.length) (.ref p) := by
  obtain ⟨vs, h1, h2⟩ := f.at_
  have le2 : w'.le ⟨w'.F, w'.α ++ [p]⟩ := ⟨fun _ _ e => e, [p], rfl⟩
  refine ⟨⟨w'.F, w'.α ++ [p]⟩, ⟨s.le.trans le2, s.h, s.t, s.nf, fun b o e h => ?_⟩, ⟨C.fz, by simp [C.len], ?_, fun a ha => ?_, fun n a c e1 e2 => ?_⟩, ⟨p, rfl, ?_⟩⟩
  · rcases List.mem_append.mp h with z | z
    · exact s.na b o e z
    · have : b = p := by simpa using z
      rw [this, f.new] at e; cases e
  · exact List.nodup_append.mpr ⟨C.nd, by simp, fun a ha b hb => by
      have : b = p := by simpa using hb
      rw [this]
      exact fun z => f.na (z ▸ ha)⟩
  · rcases List.mem_append.mp ha with z | z
    · exact C.fa a z
    · have : a = p := by simpa using z
      rw [this]; exact f.nf
  · by_cases hn : n < w'.α.length
    · have e1' : w'.α[n]? = some a := by rw [← e1]; exact (List.getElem?_append_left hn).symm
      have e2' : μ[n]? = some c := by rw [← e2]; exact (List.getElem?_append_left (by rw [← C.len]; exact hn)).symm
      exact (C.cel n a c e1' e2').step le2 fun _ z => z
    · have e1' : ([p] : List Addr)[n - w'.α.length]? = some a := by rw [← e1]; exact (List.getElem?_append_right (by omega)).symm
      have e2' : ([Cell.lst ds] : List Cell)[n - μ.length]? = some c := by rw [← e2]; exact (List.getElem?_append_right (by rw [← C.len]; omega)).symm
      have hl := C.len
      have hz : n - w'.α.length = 0 := by
        cases z : n - w'.α.length with
        | zero => rfl
        | succ k => rw [z] at e1'; simp at e1'
      rw [hz] at e1'
      rw [← hl, hz] at e2'
      have a1 : p = a := by simpa using e1'
      have a2 : Cell.lst ds = c := by simpa using e2'
      subst a1 a2
      exact ⟨vs, h1, RepL.le le2 ds h2⟩
  · show (w'.α ++ [p])[μ.length]? = some p
    rw [← C.len]
    simp
/-- a list that has just been laid -/
theorem Fresh.of {H1 : Hp} {w1 : Wd} {ds : List D} {vs : List V} {p : Addr} {μ : Mu} (s : Step H w H1 w1) (C : Cok K G w1 H1 μ) (hp : H1 p = none) (r : RepL K G w1 ds vs) :
    Step H w (upd H1 p (.lst vs)) w1 ∧ Cok K G w1 (upd H1 p (.lst vs)) μ ∧ Fresh K G H w1 (upd H1 p (.lst vs)) ds p :=
  ⟨s.trans (Step.bare hp), Cok.bare C hp, ⟨⟨vs, upd_same, r⟩, s.none hp, (fun h => by
    obtain ⟨o, e⟩ := C.there h
    rw [hp] at e
    cases e), (by
    cases e : w1.F p with
    | none => rfl
    | some o =>
      have := C.fz p o e
      rw [hp] at this
      cases this)⟩⟩
theorem nm_ne {G : Gi} {f g : Nat} (nm : G.nms.Nodup ∧ ("" : Str) ∉ G.nms) (hf : f < G.nms.length) (h : f ≠ g) : (G.nm f == G.nm g) = false := by
  have h1 : G.nms[f]? = some G.nms[f] := List.getElem?_eq_getElem hf
  have e1 : G.nm f = G.nms[f] := by unfold Gi.nm; rw [h1]
  rw [e1]
  unfold Gi.nm
  cases h2 : G.nms[g]? with
  | none =>
    have : G.nms[f] ≠ ("" : Str) := fun z => nm.2 (z ▸ List.getElem_mem hf)
    simpa using this
  | some y =>
    obtain ⟨hg, ey⟩ := List.getElem?_eq_some_iff.mp h2
    have : G.nms[f] ≠ y := fun z => h ((List.getElem_inj nm.1).mp (z.trans ey.symm))
    simpa using this
theorem lookF_of {fs : List (Nat × D)} {vs : List (Str × V)} {f : Nat} {d : D} (nm : G.nms.Nodup ∧ ("" : Str) ∉ G.nms) (hf : f < G.nms.length) (r : RepF K G w fs vs) (e : lookF f fs = some d) : ∃ v, vs.lookup (G.nm f) = some v ∧ Rep K G w d v := by
  induction fs generalizing vs with
  | nil => cases e
  | cons p r0 ih =>
    obtain ⟨g, dg⟩ := p
    obtain ⟨v, q, rfl, hv, hq⟩ := r
    have e' : (if f = g then some dg else lookF f r0) = some d := e
    by_cases h : f = g
    · subst h
      rw [if_pos rfl] at e'
      cases e'
      exact ⟨v, by simp [List.lookup], hv⟩
    · rw [if_neg h] at e'
      obtain ⟨u, hu, ru⟩ := ih hq e'
      refine ⟨u, ?_, ru⟩
      have : (G.nm f == G.nm g) = false := nm_ne nm hf h
      simp only [List.lookup, this]
      exact hu
theorem lookF_none {fs : List (Nat × D)} {vs : List (Str × V)} {f : Nat} (nm : G.nms.Nodup ∧ ("" : Str) ∉ G.nms) (hf : f < G.nms.length) (r : RepF K G w fs vs) (e : lookF f fs = none) : vs.lookup (G.nm f) = none := by
  induction fs generalizing vs with
  | nil => rw [show vs = [] from r]; rfl
  | cons p r0 ih =>
    obtain ⟨g, dg⟩ := p
    obtain ⟨v, q, rfl, hv, hq⟩ := r
    have e' : (if f = g then some dg else lookF f r0) = none := e
    by_cases h : f = g
    · rw [if_pos h] at e'; cases e'
    · rw [if_neg h] at e'
      have : (G.nm f == G.nm g) = false := nm_ne nm hf h
      simp only [List.lookup, this]
      exact ih hq e'
theorem repF_zip : ∀ {fl : List Nat} {ds : List D} {fs : List (Str × V)}, fs.map (·.1) = fl.map G.nm → RepL K G w ds (fs.map (·.2)) → RepF K G w (fl.zip ds) fs
  | [], ds, fs, h1, h2 => by
    have : fs = [] := by simpa using h1
    subst this
    simp
    exact rfl
  | f :: fl, [], fs, h1, h2 => by
    have : fs.map (·.2) = [] := h2
    have : fs = [] := by simpa using this
    subst this
    simp at h1
  | f :: fl, d :: ds, fs, h1, h2 => by
    obtain ⟨v, r, e, hv, hr⟩ := h2
    cases fs with
    | nil => simp at e
    | cons p q =>
      obtain ⟨x, u⟩ := p
      simp only [List.map_cons, List.cons.injEq] at h1 e
      obtain ⟨h1a, h1b⟩ := h1
      obtain ⟨ea, eb⟩ := e
      subst h1a ea eb
      exact ⟨u, q, rfl, hv, repF_zip h1b hr⟩
/-- an instance, that may change or not -/
theorem RepB.asO {μ : Mu} {d : D} {v : V} {c : Nat} {fs : List (Nat × D)} (C : Cok K G w H μ) (e : Z.asO G.cs μ d = some (c, fs)) (h : RepB K G w H d v) : ∃ a dx vs, v = .ref a ∧ H a = some (.ins (clsA K G c) dx vs) ∧ RepF K G w fs vs := by
  cases d with
  | obj c' ds =>
    have e' : some (c', (fldOf G.cs c').zip ds) = some (c, fs) := e
    cases e'
    obtain ⟨a, dx, vs, e1, q, n, r⟩ := h
    exact ⟨a, dx, vs, e1, C.fz _ _ q, repF_zip n r⟩
  | loc n =>
    obtain ⟨a, e1, e2⟩ := h
    cases q : μ[n]? with
    | none => rw [show Z.asO G.cs μ (.loc n) = none by simp [Z.asO, q]] at e; cases e
    | some cl =>
      cases cl with
      | lst xs => rw [show Z.asO G.cs μ (.loc n) = none by simp [Z.asO, q]] at e; cases e
      | obj c' fs' =>
        rw [show Z.asO G.cs μ (.loc n) = some (c', fs') by simp [Z.asO, q]] at e
        cases e
        obtain ⟨dx, vs, h1, h2⟩ := C.cel n a _ e2 q
        exact ⟨a, dx, vs, e1, h1, h2⟩
  | _ => cases e
end
end Z

/-! Z8: one lemma a construct: expressions, arguments, tests. -/
namespace Z
open PySem PySem.Spec PyProof.Rows L2

section
variable {G : Gs} {Φ : Phi} {n : Nat} {X : Cx} {S : SC} {W : WX} {B : Ent} {m : Bool} {pos p : Pos} {a b c : Expr} {xs : List Expr}
abbrev zE (G : Gs) (X : Cx) (B : Ent) (W : WX) (m : Bool) (g : Rho → Mu → R D) : TE := tZ X.K G.toGi B W m g
abbrev zA (G : Gs) (X : Cx) (B : Ent) (W : WX) (m : Bool) (g : Rho → Mu → R (List D)) : TA := tZs X.K G.toGi B W m g
abbrev zT (G : Gs) (X : Cx) (B : Ent) (W : WX) (g : Rho → Mu → R Bool) : TT := tZt X.K G.toGi B W g
abbrev zO (G : Gs) (X : Cx) (B : Ent) (W : WX) (g : Rho → Mu → R (Option Int)) : TO := tZo X.K G.toGi B W g
abbrev zN (G : Gs) (X : Cx) (B : Ent) (W : WX) (g : Rho → Mu → R (List D)) : TE := tZn X.K G.toGi B W g
abbrev zW (G : Gs) (X : Cx) (B : Ent) (W : WX) (m : Bool) (g : Rho → Mu → R (List D)) : TI := tZw X.K G.toGi B W m g
theorem slotB_ok {i : Nat} {x : Str} (h : slotB S i x = true) : S.N[i]? = some x := by
  unfold slotB at h
  exact beq_iff_eq.mp h
theorem vis_ok (C : Cxt G Φ n X S W) {x : Str} (h : vis S x = true) : Vis X.env.scope x := by
  rw [C.sc]
  unfold vis at h
  split at h
  · rename_i e; exact .inl e
  · rename_i e; exact .inr (.inl e)
  · rename_i e; exact .inr (.inr e)
  · cases h
theorem isGl_ok (C : Cxt G Φ n X S W) {x : Str} (h : isGl S x = true) : Gl X x := by
  show X.env.scope.names.lookup x = _
  rw [C.sc]
  unfold isGl at h
  exact beq_iff_eq.mp h
theorem free_ok (C : Cxt G Φ n X S W) {x : Str} (h : freeB G S x = true) : Gl X x ∧ X.mg x = none ∧ (x == ("__debug__" : Str)) = false ∧ x ≠ "__name__" := by
  unfold freeB at h
  simp only [Bool.and_eq_true, Bool.not_eq_true'] at h
  obtain ⟨⟨⟨h1, h2⟩, h3⟩, h4⟩ := h
  refine ⟨isGl_ok C h1, C.fac.free x (List.contains_iff_mem.mp h2), h3, fun z => ?_⟩
  rw [z] at h4
  simp at h4
/-! expressions -/
theorem z_var (C : Cxt G Φ n X S W) {i : Nat} {x : Str} (h1 : slotB S i x = true) (h2 : vis S x = true) (h3 : plainNm x = true) : PE X (.Name x pos) (zE G X B W m (denE G.cs Φ (.var i) m)) := by
  unfold plainNm at h3
  simp only [Bool.and_eq_true, Bool.not_eq_true'] at h3
  refine PE.imp (pe_var (i := i) (by rw [C.N]; exact slotB_ok h1) (vis_ok C h2) h3.1 h3.2) fun σ H Q => ?_
  rintro ⟨w, ρ, μ, Co, So, P⟩
  have P' : PostE X.K G.toGi m H w Q (WE W σ) (varD i m ρ μ) := P
  unfold varD at P'
  cases e : ρ[i]? with
  | none => rw [e] at P'; exact P'.elim
  | some s =>
    rw [e] at P'
    have hs := So.slot i s e
    cases s with
    | emp => exact P'.elim
    | val d =>
      obtain ⟨v, h1, h2⟩ := hs
      exact ⟨v, h1, P' v H w (.refl H w) Co (RepM.of Co h2)⟩
    | own ds =>
      cases m with
      | false => exact P'.elim
      | true =>
        obtain ⟨a, vs, h1, h2, h3, h4, _⟩ := hs
        exact ⟨.ref a, h1, P' (.ref a) H w (.refl H w) Co ⟨a, vs, rfl, Fb.mk h2 h4, h3⟩⟩
theorem post_val {K : PySem.W.Frag} {H : Hp} {w : Wd} {μ : Mu} {Q : VK} {E : XK} {d : D} {v : V} (P : PostE K G.toGi m H w Q E (.ok d μ)) (Co : Cok K G.toGi w H μ) (r : Rep K G.toGi w d v) : Q v H := P v H w (.refl H w) Co (RepM.of Co r)
theorem z_cst {d : D} {k : Const} {j : Nat} (h : cstB d k = true) : PE X (.Constant k j pos) (zE G X B W m (denE G.cs Φ (.cst d) m)) := by
  cases d with
  | non =>
    cases k with
    | none => exact PE.imp pe_non fun σ H Q ⟨w, ρ, μ, Co, So, P⟩ => post_val (G := G) P Co (v := .non) rfl
    | _ => cases h
  | bl b =>
    cases k with
    | bool c =>
      have e : b = c := beq_iff_eq.mp h
      subst e
      exact PE.imp pe_bl fun σ H Q ⟨w, ρ, μ, Co, So, P⟩ => post_val (G := G) P Co (v := .bl b) rfl
    | _ => cases h
  | int b =>
    cases k with
    | int c =>
      have e : b = c := beq_iff_eq.mp h
      subst e
      exact PE.imp pe_int fun σ H Q ⟨w, ρ, μ, Co, So, P⟩ => post_val (G := G) P Co (v := .int b) rfl
    | _ => cases h
  | str b =>
    cases k with
    | str c =>
      have e : b = c := beq_iff_eq.mp h
      subst e
      exact PE.imp pe_str fun σ H Q ⟨w, ρ, μ, Co, So, P⟩ => post_val (G := G) P Co (v := .str b) rfl
    | _ => cases h
  | _ => cases k <;> cases h
theorem z_gbl (C : Cxt G Φ n X S W) {x : Str} {d : D} (h1 : isGl S x = true) (h2 : (x == ("__debug__" : Str)) = false) (h3 : conB G x d = true) : PE X (.Name x pos) (zE G X B W m (denE G.cs Φ (.gbl x d) m)) := by
  unfold conB at h3
  obtain ⟨⟨y, d'⟩, hm, hp⟩ := List.any_eq_true.mp h3
  rw [Bool.and_eq_true] at hp
  have ey : y = x := beq_iff_eq.mp hp.1
  subst ey
  obtain ⟨u, v, e1, e2, i, e3⟩ := C.fac.con y d' hm
  refine PE.imp (pe_glob (isGl_ok C h1) e1 e2 h2) fun σ H Q ⟨w, ρ, μ, Co, So, P⟩ => ?_
  have hd := hp.2
  rcases e3 with ⟨q1, q2⟩ | ⟨z, q1, q2⟩
  · subst q1 q2
    cases d with
    | int j =>
      have e : i = j := beq_iff_eq.mp hd
      subst e
      exact post_val (G := G) P Co (v := .int i) rfl
    | _ => cases hd
  · subst q1 q2
    cases d with
    | str j =>
      have e : z = j := beq_iff_eq.mp hd
      subst e
      exact post_val (G := G) P Co (v := .str z) rfl
    | _ => cases hd
theorem z_bin {o : Operator} {ga gb : Rho → Mu → R D} (ha : PE X a (zE G X B W true ga)) (hb : PE X b (zE G X B W true gb)) :
    PE X (.BinOp a o b pos) (zE G X B W m fun ρ μ => (ga ρ μ).bind fun x μ => (gb ρ μ).bind fun y μ => .opt (binD o μ x y) μ) := by
  refine PE.imp (pe_op (opB (G := G.toGi) o) ha hb) fun σ H Q ⟨w, ρ, μ, Co, So, P⟩ => ?_
  refine ⟨w, ρ, μ, Co, So, P.bind fun x μ1 _ P1 v H1 w1 s1 C1 r1 => ⟨w1, ρ, μ1, C1, So.step s1, (PostE.shift s1 P1).bind fun y μ2 _ P2 u H2 w2 s2 C2 r2 => ?_⟩⟩
  obtain ⟨d, e, k⟩ := PostE.opt (PostE.shift s2 P2)
  exact ⟨w2, μ2, x, y, d, C2, RepB.step s2 r1, r2, e, k⟩
theorem z_neg {ga : Rho → Mu → R D} (ha : PE X a (zE G X B W true ga)) : PE X (.UnaryOp .USub a pos) (zE G X B W m fun ρ μ => (ga ρ μ).bind fun x μ => match x with
    | .int i => .ok (.int (-i)) μ
    | _ => .bad) := by
  refine PE.imp (pe_un un_neg ha) fun σ H Q ⟨w, ρ, μ, Co, So, P⟩ => ?_
  refine ⟨w, ρ, μ, Co, So, P.bind fun x μ1 _ P1 v H1 w1 s1 C1 r1 => ?_⟩
  cases x with
  | int i => exact ⟨i, r1, post_val (G := G) (PostE.shift s1 P1) C1 (v := .int (-i)) rfl⟩
  | _ => exact P1.elim
theorem z_not {ga : Rho → Mu → R D} (ha : PE X a (zE G X B W true ga)) : PE X (.UnaryOp .Not a pos) (zE G X B W m fun ρ μ => (ga ρ μ).bind fun x μ => .opt ((truD μ x).map fun k => .bl (!k)) μ) := by
  refine PE.imp (pe_notT ha) fun σ H Q ⟨w, ρ, μ, Co, So, P⟩ => ?_
  refine ⟨w, ρ, μ, Co, So, P.bind fun x μ1 _ P1 v H1 w1 s1 C1 r1 => ?_⟩
  cases e : truD μ1 x with
  | none => rw [e] at P1; exact P1.elim
  | some k =>
    rw [e] at P1
    exact ⟨k, RepB.tru C1 r1 e, post_val (G := G) (PostE.shift s1 P1) C1 (v := .bl (!k)) rfl⟩
theorem z_cmp (C : Cxt G Φ n X S W) {o : CmpOp} {ga gb : Rho → Mu → R D} (ha : PE X a (zE G X B W true ga)) (hb : PE X b (zE G X B W true gb)) (hd : hdOk b = true) :
    PE X (.Compare a [o] [b] pos) (zE G X B W m fun ρ μ => (ga ρ μ).bind fun x μ => (gb ρ μ).bind fun y μ => .opt ((cmpD o μ x y).map .bl) μ) := by
  refine PE.imp (pe_cmpR (cmpZ (G := G.toGi) o (by have := C.room.un; omega)) ha hb (marks_ok hd)) fun σ H Q ⟨w, ρ, μ, Co, So, P⟩ => ?_
  refine ⟨w, ρ, μ, Co, So, P.bind fun x μ1 _ P1 v H1 w1 s1 C1 r1 => ⟨w1, ρ, μ1, C1, So.step s1, (PostE.shift s1 P1).bind fun y μ2 _ P2 u H2 w2 s2 C2 r2 => ?_⟩⟩
  obtain ⟨k, e, q⟩ := PostE.optb C2 (PostE.shift s2 P2)
  exact ⟨w2, μ2, x, y, k, C2, RepB.step s2 r1, r2, e, q⟩
theorem tz_cmp (C : Cxt G Φ n X S W) {o : CmpOp} {ga gb : Rho → Mu → R D} (ha : PE X a (zE G X B W true ga)) (hb : PE X b (zE G X B W true gb)) (hd : hdOk b = true) :
    PT X (.Compare a [o] [b] pos) (zT G X B W fun ρ μ => (ga ρ μ).bind fun x μ => (gb ρ μ).bind fun y μ => .opt (cmpD o μ x y) μ) := by
  refine PT.imp (pt_cmpR (cmpZ (G := G.toGi) o (by have := C.room.un; omega)) ha hb (marks_ok hd)) fun σ H Q ⟨w, ρ, μ, Co, So, P⟩ => ?_
  refine ⟨w, ρ, μ, Co, So, P.bind fun x μ1 _ P1 v H1 w1 s1 C1 r1 => ⟨w1, ρ, μ1, C1, So.step s1, (PostT.shift s1 P1).bind fun y μ2 _ P2 u H2 w2 s2 C2 r2 => ?_⟩⟩
  cases e2 : cmpD o μ2 x y with
  | none => rw [e2] at P2; exact P2.elim
  | some k =>
    rw [e2] at P2
    exact ⟨w2, μ2, x, y, k, C2, RepB.step s2 r1, r2, e2, k, rfl, P2 H2 w2 s2 C2⟩
theorem tru_bl {α : Type} (r : R α) (f : α → Mu → Option Bool) : (r.bind fun x μ => R.opt ((f x μ).map D.bl) μ).bind (fun x μ => R.opt (truD μ x) μ) = r.bind fun x μ => R.opt (f x μ) μ := by
  cases r with
  | ok x μ =>
    show (R.opt ((f x μ).map D.bl) μ).bind _ = R.opt (f x μ) μ
    cases f x μ <;> rfl
  | _ => rfl
theorem z_chn (C : Cxt G Φ n X S W) {o q : CmpOp} {ga gb gc : Rho → Mu → R D} (ha : PE X a (zE G X B W true ga)) (hb : PE X b (zE G X B W true gb)) (hc : PE X c (zE G X B W true gc)) (h1 : hdOk b = true) (h2 : hdOk c = true) :
    PE X (.Compare a [o, q] [b, c] pos) (zE G X B W m fun ρ μ => (ga ρ μ).bind fun x μ => (gb ρ μ).bind fun y μ => match cmpD o μ x y with
      | some true => (gc ρ μ).bind fun z μ => .opt ((cmpD q μ y z).map .bl) μ
      | some false => .ok (.bl false) μ
      | none => .bad) := by
  have hu : X.A.units + 65 < cLine := by have := C.room.un; omega
  refine PE.imp (pe_chain (cmpZ (G := G.toGi) o hu) (cmpZ (G := G.toGi) q hu) ha hb hc (by show behindInMarks q c = false; exact marks_ok h2)) fun σ H Q ⟨w, ρ, μ, Co, So, P⟩ => ?_
  refine ⟨w, ρ, μ, Co, So, P.bind fun x μ1 _ P1 v H1 w1 s1 C1 r1 => ⟨w1, ρ, μ1, C1, So.step s1, (PostE.shift s1 P1).bind fun y μ2 _ P2 u H2 w2 s2 C2 r2 => ?_⟩⟩
  cases e : cmpD o μ2 x y with
  | none => rw [e] at P2; exact P2.elim
  | some k =>
    rw [e] at P2
    refine ⟨w2, μ2, x, y, k, C2, RepB.step s2 r1, r2, e, k, rfl, ?_⟩
    have P3 := PostE.shift s2 P2
    cases k with
    | false => exact post_val (G := G) P3 C2 (v := .bl false) rfl
    | true =>
      refine ⟨w2, ρ, μ2, C2, (So.step s1).step s2, Post.bind P3 fun z μ3 _ P4 v3 H3 w3 s3 C3 r3 => ?_⟩
      obtain ⟨k, e, q⟩ := PostE.optb C3 (PostE.shift s3 P4)
      exact ⟨w3, μ3, y, z, k, C3, RepB.step s3 r2, r3, e, q⟩
theorem tz_chn (C : Cxt G Φ n X S W) {o q : CmpOp} {ga gb gc : Rho → Mu → R D} (ha : PE X a (zE G X B W true ga)) (hb : PE X b (zE G X B W true gb)) (hc : PE X c (zE G X B W true gc)) (h1 : hdOk b = true) (h2 : hdOk c = true) :
    PT X (.Compare a [o, q] [b, c] pos) (zT G X B W fun ρ μ => (ga ρ μ).bind fun x μ => (gb ρ μ).bind fun y μ => match cmpD o μ x y with
      | some true => (gc ρ μ).bind fun z μ => .opt (cmpD q μ y z) μ
      | some false => .ok false μ
      | none => .bad) := by
  have hu : X.A.units + 65 < cLine := by have := C.room.un; omega
  refine PT.imp (pt_chain (cmpZ (G := G.toGi) o hu) (cmpZ (G := G.toGi) q hu) ha hb hc (by show behindInMarks q c = false; exact marks_ok h2)) fun σ H Q ⟨w, ρ, μ, Co, So, P⟩ => ?_
  refine ⟨w, ρ, μ, Co, So, P.bind fun x μ1 _ P1 v H1 w1 s1 C1 r1 => ⟨w1, ρ, μ1, C1, So.step s1, (PostT.shift s1 P1).bind fun y μ2 _ P2 u H2 w2 s2 C2 r2 => ?_⟩⟩
  cases e : cmpD o μ2 x y with
  | none => rw [e] at P2; exact P2.elim
  | some k =>
    rw [e] at P2
    refine ⟨w2, μ2, x, y, k, C2, RepB.step s2 r1, r2, e, k, rfl, ?_⟩
    have P3 := PostT.shift s2 P2
    cases k with
    | false => exact ⟨false, rfl, P3 H2 w2 (.refl _ _) C2⟩
    | true =>
      refine ⟨w2, ρ, μ2, C2, (So.step s1).step s2, Post.bind P3 fun z μ3 _ P4 v3 H3 w3 s3 C3 r3 => ?_⟩
      cases e4 : cmpD q μ3 y z with
      | none => rw [e4] at P4; exact P4.elim
      | some k => 
        rw [e4] at P4
        exact ⟨w3, μ3, y, z, k, C3, RepB.step s3 r2, r3, e4, k, rfl, P4 H3 w3 s3 C3⟩
/-- a test by a value's truth -/
theorem tz_val {ga : Rho → Mu → R D} (ha : PE X a (zE G X B W true ga)) (h : plainT a = true) : PT X a (zT G X B W fun ρ μ => (ga ρ μ).bind fun x μ => .opt (truD μ x) μ) := by
  refine PT.imp (pt_truth ha (plainT_ok h)) fun σ H Q ⟨w, ρ, μ, Co, So, P⟩ => ?_
  refine ⟨w, ρ, μ, Co, So, P.bind fun x μ1 _ P1 v H1 w1 s1 C1 r1 => ?_⟩
  cases e : truD μ1 x with
  | none => rw [e] at P1; exact P1.elim
  | some k =>
    rw [e] at P1
    exact ⟨k, RepB.tru C1 r1 e, P1 H1 w1 s1 C1⟩
theorem tz_not {ga : Rho → Mu → R Bool} (ha : PT X a (zT G X B W ga)) : PT X (.UnaryOp .Not a pos) (zT G X B W fun ρ μ => (ga ρ μ).bind fun k μ => .ok (!k) μ) := by
  refine PT.imp (pt_not ha) fun σ H Q ⟨w, ρ, μ, Co, So, P⟩ => ?_
  exact ⟨w, ρ, μ, Co, So, P.bind fun k μ1 _ P1 H1 w1 s1 C1 => P1 H1 w1 s1 C1⟩
theorem z_ite {t : Expr} {gt : Rho → Mu → R Bool} {ga gb : Rho → Mu → R D} (ht : PT X t (zT G X B W gt)) (ha : PE X a (zE G X B W m ga)) (hb : PE X b (zE G X B W m gb)) :
    PE X (.IfExp t a b pos) (zE G X B W m fun ρ μ => (gt ρ μ).bind fun k μ => match k with
      | true => ga ρ μ
      | false => gb ρ μ) := by
  refine PE.imp (pe_ifExp ht ha hb) fun σ H Q ⟨w, ρ, μ, Co, So, P⟩ => ?_
  refine ⟨w, ρ, μ, Co, So, P.bind fun k μ1 _ P1 H1 w1 s1 C1 => ?_⟩
  cases k with
  | true => exact ⟨w1, ρ, μ1, C1, So.step s1, PostE.shift s1 P1⟩
  | false => exact ⟨w1, ρ, μ1, C1, So.step s1, PostE.shift s1 P1⟩
/-! and, or of values; of tests -/
theorem bind_ok {α : Type} (r : R α) : (r.bind fun x μ => R.ok x μ) = r := by
  cases r <;> rfl
theorem z_bop1 {o : BoolOp} {ga : Rho → Mu → R D} (ha : PE X a (zE G X B W m ga)) : PE X (.BoolOp o [a] pos) (zE G X B W m fun ρ μ => (ga ρ μ).bind fun x μ => .ok x μ) := by
  refine PE.imp (pe_one ha) fun σ H Q ⟨w, ρ, μ, Co, So, P⟩ => ⟨w, ρ, μ, Co, So, ?_⟩
  have P' : PostE X.K G.toGi m H w Q (WE W σ) ((ga ρ μ).bind fun x μ => .ok x μ) := P
  rw [bind_ok] at P'
  exact P'
theorem z_bop {o : BoolOp} {ga gb : Rho → Mu → R D} (ha : PE X a (zE G X B W m ga)) (hb : PE X (.BoolOp o (b :: xs) pos) (zE G X B W m gb)) :
    PE X (.BoolOp o (a :: b :: xs) pos) (zE G X B W m fun ρ μ => (ga ρ μ).bind fun x μ => match (generalizing := false) o, truD μ x with
      | .And, some false => .ok x μ
      | .Or, some true => .ok x μ
      | _, some _ => gb ρ μ
      | _, none => .bad) := by
  cases o with
  | And =>
    refine PE.imp (pe_andT ha hb) fun σ H Q ⟨w, ρ, μ, Co, So, P⟩ => ?_
    refine ⟨w, ρ, μ, Co, So, P.bind fun x μ1 _ P1 v H1 w1 s1 C1 r1 => ?_⟩
    cases e : truD μ1 x with
    | none => rw [e] at P1; exact P1.elim
    | some k =>
      rw [e] at P1
      refine ⟨k, RepB.tru C1 (RepM.bor C1 r1) e, ?_⟩
      cases k with
      | false => exact P1 v H1 w1 s1 C1 r1
      | true => exact ⟨w1, ρ, μ1, C1, So.step s1, PostE.shift s1 P1⟩
  | Or =>
    refine PE.imp (pe_orT ha hb) fun σ H Q ⟨w, ρ, μ, Co, So, P⟩ => ?_
    refine ⟨w, ρ, μ, Co, So, P.bind fun x μ1 _ P1 v H1 w1 s1 C1 r1 => ?_⟩
    cases e : truD μ1 x with
    | none => rw [e] at P1; exact P1.elim
    | some k =>
      rw [e] at P1
      refine ⟨k, RepB.tru C1 (RepM.bor C1 r1) e, ?_⟩
      cases k with
      | true => exact P1 v H1 w1 s1 C1 r1
      | false => exact ⟨w1, ρ, μ1, C1, So.step s1, PostE.shift s1 P1⟩
theorem tz_and {ga gb : Rho → Mu → R Bool} (ha : PT X a (zT G X B W ga)) (hb : PW X (.BoolOp .And (b :: xs) pos) (zT G X B W gb)) :
    PW X (.BoolOp .And (a :: b :: xs) pos) (zT G X B W fun ρ μ => (ga ρ μ).bind fun k μ => match k with
      | true => gb ρ μ
      | false => .ok false μ) := by
  have h := pw_and ha hb
  refine ⟨fun wh pins s σ H Q I z => h.run wh pins s σ H Q I ?_⟩
  obtain ⟨w, ρ, μ, Co, So, P⟩ := z
  refine ⟨w, ρ, μ, Co, So, P.bind fun k μ1 _ P1 H1 w1 s1 C1 => ?_⟩
  cases k with
  | true => exact ⟨w1, ρ, μ1, C1, So.step s1, PostT.shift s1 P1⟩
  | false => exact P1 H1 w1 s1 C1
theorem tz_or {ga gb : Rho → Mu → R Bool} (ha : PT X a (zT G X B W ga)) (hb : PW X (.BoolOp .Or (b :: xs) pos) (zT G X B W gb)) :
    PW X (.BoolOp .Or (a :: b :: xs) pos) (zT G X B W fun ρ μ => (ga ρ μ).bind fun k μ => match k with
      | true => .ok true μ
      | false => gb ρ μ) := by
  have h := pw_or ha hb
  refine ⟨fun wh pins s σ H Q I z => h.run wh pins s σ H Q I ?_⟩
  obtain ⟨w, ρ, μ, Co, So, P⟩ := z
  refine ⟨w, ρ, μ, Co, So, P.bind fun k μ1 _ P1 H1 w1 s1 C1 => ?_⟩
  cases k with
  | false => exact ⟨w1, ρ, μ1, C1, So.step s1, PostT.shift s1 P1⟩
  | true => exact P1 H1 w1 s1 C1
theorem tz_one {o : BoolOp} {ga : Rho → Mu → R Bool} (ha : PT X a (zT G X B W ga)) : PW X (.BoolOp o [a] pos) (zT G X B W ga) := by
  cases o with
  | And => exact pw_and1 ha
  | Or => exact pw_or1 ha
/-! arguments -/
theorem az_nil : PA X [] (zA G X B W m fun ρ μ => .ok [] μ) := by
  refine PA.imp pa_nil fun σ H Q ⟨w, ρ, μ, Co, So, P⟩ => ?_
  exact P [] H w (.refl H w) Co rfl
theorem az_cons {ga : Rho → Mu → R D} {gs : Rho → Mu → R (List D)} (ha : PE X a (zE G X B W m ga)) (hs : PA X xs (zA G X B W m gs)) (hd : hdOk a = true) :
    PA X (a :: xs) (zA G X B W m fun ρ μ => (ga ρ μ).bind fun d μ => (gs ρ μ).bind fun ds μ => .ok (d :: ds) μ) := by
  refine PA.imp (pa_cons ha hs (star_ok hd)) fun σ H Q ⟨w, ρ, μ, Co, So, P⟩ => ?_
  refine ⟨w, ρ, μ, Co, So, P.bind fun x μ1 _ P1 v H1 w1 s1 C1 r1 => ⟨w1, ρ, μ1, C1, So.step s1, (PostA.shift s1 P1).bind fun ds μ2 _ P2 vs H2 w2 s2 C2 r2 => ?_⟩⟩
  exact P2 (v :: vs) H2 w2 s2 C2 ⟨v, vs, rfl, RepM.step s2 r1, r2⟩
/-! displays, places, fields -/
theorem z_tup {k : Nat} {gs : Rho → Mu → R (List D)} (hs : PA X xs (zA G X B W false gs)) : PE X (.Tuple xs k pos) (zE G X B W m fun ρ μ => (gs ρ μ).bind fun ds μ => if fits ds.length then .ok (.tup ds) μ else .bad) := by
  refine PE.imp (pe_tup hs) fun σ H Q ⟨w, ρ, μ, Co, So, P⟩ => ?_
  refine ⟨w, ρ, μ, Co, So, P.bind fun ds μ1 _ P1 vs H1 w1 s1 C1 r1 => ?_⟩
  cases hf : fits ds.length with
  | false => rw [hf] at P1; exact P1.elim
  | true =>
    rw [hf, if_pos rfl] at P1
    have r := r1.pure
    exact ⟨by rw [r.length]; exact fits_le hf, fun q hq => P1 (.ref q) _ _ (s1.trans (Step.lay C1 hq)) (Cok.lay C1 hq) (RepM.of (Cok.lay C1 hq) (Rep.layT C1 hq r))⟩
theorem z_new {gn : Rho → Mu → R (List D)} (h : PE X a (zN G X B W gn)) : PE X a (zE G X B W m fun ρ μ => (gn ρ μ).bind fun ds μ => .ok (.lst ds) μ) := by
  refine PE.imp h fun σ H Q ⟨w, ρ, μ, Co, So, P⟩ => ?_
  refine ⟨w, ρ, μ, Co, So, P.bind fun ds μ1 _ P1 q H1 w1 s1 C1 f => ?_⟩
  obtain ⟨w2, s2, C2, r2, _⟩ := f.froz s1 C1
  exact P1 _ H1 w2 s2 C2 (RepM.of C2 r2)
theorem z_cel {gn : Rho → Mu → R (List D)} (h : PE X a (zN G X B W gn)) : PE X a (zE G X B W m fun ρ μ => (gn ρ μ).bind fun ds μ => .ok (.loc μ.length) (μ ++ [.lst ds])) := by
  refine PE.imp h fun σ H Q ⟨w, ρ, μ, Co, So, P⟩ => ?_
  refine ⟨w, ρ, μ, Co, So, P.bind fun ds μ1 _ P1 q H1 w1 s1 C1 f => ?_⟩
  obtain ⟨w2, s2, C2, r2⟩ := f.cell s1 C1
  exact P1 _ H1 w2 s2 C2 (RepM.of C2 r2)
theorem z_idx {ga gb : Rho → Mu → R D} (ha : PE X a (zE G X B W true ga)) (hb : PE X b (zE G X B W true gb)) (hs : notSl b = true) :
    PE X (.Subscript a b pos) (zE G X B W m fun ρ μ => (ga ρ μ).bind fun x μ => (gb ρ μ).bind fun y μ => .opt (idxD μ x y) μ) := by
  refine PE.imp (pe_ix (ixZ (G := G.toGi)) ha hb (notSl_ok hs)) fun σ H Q ⟨w, ρ, μ, Co, So, P⟩ => ?_
  refine ⟨w, ρ, μ, Co, So, P.bind fun x μ1 _ P1 v H1 w1 s1 C1 r1 => ⟨w1, ρ, μ1, C1, So.step s1, (PostE.shift s1 P1).bind fun y μ2 _ P2 u H2 w2 s2 C2 r2 => ?_⟩⟩
  obtain ⟨d, e, k⟩ := PostE.opt (PostE.shift s2 P2)
  exact ⟨w2, μ2, x, y, d, C2, RepB.step s2 r1, r2, e, k⟩
theorem z_slc {lo hi : Option Expr} {ga : Rho → Mu → R D} {gl gh : Rho → Mu → R (Option Int)} (ha : PE X a (zE G X B W true ga)) (hl : PO X lo (zO G X B W gl)) (hh : PO X hi (zO G X B W gh)) :
    PE X (.Subscript a (.Slice lo hi none p) pos) (zE G X B W m fun ρ μ => (ga ρ μ).bind fun x μ => (gl ρ μ).bind fun l μ => (gh ρ μ).bind fun h μ => .opt (slcD μ x l h) μ) := by
  refine PE.imp (pe_slice (slZ (G := G.toGi)) ha hl hh) fun σ H Q ⟨w, ρ, μ, Co, So, P⟩ => ?_
  refine ⟨w, ρ, μ, Co, So, P.bind fun x μ1 _ P1 v H1 w1 s1 C1 r1 => ⟨w1, ρ, μ1, C1, So.step s1, (PostE.shift s1 P1).bind fun l μ2 _ P2 H2 w2 s2 C2 => ⟨w2, ρ, μ2, C2, (So.step s1).step s2, (PostE.shift s2 P2).bind fun h μ3 _ P3 H3 w3 s3 C3 => ?_⟩⟩⟩
  obtain ⟨d, e, k⟩ := PostE.opt (PostE.shift s3 P3)
  exact ⟨w3, μ3, x, d, C3, RepB.step s3 (RepB.step s2 r1), e, k⟩
theorem z_att (C : Cxt G Φ n X S W) {f : Nat} {nm : Str} {ga : Rho → Mu → R D} (ha : PE X a (zE G X B W true ga)) (h1 : nmB G f nm = true) (h2 : baseB a = true) :
    PE X (.Attribute a nm pos) (zE G X B W m fun ρ μ => (ga ρ μ).bind fun x μ => .opt (attD G.cs f μ x) μ) := by
  have e1 : G.nms[f]? = some nm := beq_iff_eq.mp h1
  have e2 : G.nm f = nm := by unfold Gi.nm; rw [e1]
  have hf : f < G.nms.length := (List.getElem?_eq_some_iff.mp e1).1
  refine PE.imp (pe_fld ha (base_ok h2)) fun σ H Q ⟨w, ρ, μ, Co, So, P⟩ => ?_
  refine ⟨w, ρ, μ, Co, So, P.bind fun x μ1 _ P1 v H1 w1 s1 C1 r1 => ?_⟩
  obtain ⟨d, e, k⟩ := PostE.opt (PostE.shift s1 P1)
  unfold attD at e
  cases eo : asO G.cs μ1 x with
  | none => rw [eo] at e; cases e
  | some q =>
    obtain ⟨c, fs⟩ := q
    rw [eo] at e
    have e' : (match (fldOf G.cs c).contains f with
      | true => lookF f fs
      | false => none) = some d := e
    cases hc : (fldOf G.cs c).contains f with
    | false => rw [hc] at e'; cases e'
    | true =>
      rw [hc] at e'
      obtain ⟨q, dx, vs, rfl, hi, rf⟩ := RepB.asO (G := G.toGi) C1 eo r1
      obtain ⟨u, hu, ru⟩ := lookF_of C.fac.nmi hf rf e'
      obtain ⟨ci, hci, hm⟩ : ∃ ci, G.cs[c]? = some ci ∧ f ∈ ci.fld := by
        unfold fldOf at hc
        cases z : G.cs[c]? with
        | none => rw [z] at hc; cases hc
        | some ci => rw [z] at hc; exact ⟨ci, rfl, List.contains_iff_mem.mp hc⟩
      have na := C.fac.noat c ci f hci hm
      rw [e2] at na hu
      exact ⟨q, _, dx, vs, u, rfl, hi, (C.fac.cls c ci hci).1, na, hu, k.here C1 ru⟩
end
end Z

/-! Z9: calls, built-ins, new lists, walks, comprehensions. -/
namespace Z
open PySem PySem.Spec PyProof.Rows L2

section
variable {G : Gs} {Φ : Phi} {n : Nat} {X : Cx} {S : SC} {W : WX} {B : Ent} {m : Bool} {pos p : Pos} {a b c : Expr} {xs : List Expr}
/-- a def's promise, from its meaning -/
theorem sp_of {K : PySem.W.Frag} {np : Nat} {φ : List D → Mu → R D} {w : Wd} {H : Hp} {μ : Mu} {ds : List D} {vs : List V} {Q : VK} {E : XK} (C : Cok K G.toGi w H μ) (r : RepL K G.toGi w ds vs) (hl : ds.length = np) (P : PostE K G.toGi m H w Q E (φ ds μ)) :
    spF K G.toGi np φ vs H Q E := by
  refine ⟨w, μ, ds, C, r, hl, ?_⟩
  cases e : φ ds μ with
  | ok d μ' =>
    rw [e] at P
    exact fun v H' w' s C' r' => P v H' w' s C' (RepM.of C' r')
  | ex c a μ' => rw [e] at P; exact P
  | bad => rw [e] at P; exact P
/-- what a call's meaning asks of the number of arguments -/
def Arity (G : Gs) (Φ : Phi) : Prop := ∀ (f : Nat) (fi : FI) (ds : List D) (μ : Mu), G.fns[f]? = some fi → ds.length ≠ fi.ps.length → Φ f ds μ = .bad
theorem fnB_ok {f : Nat} {x : Str} (C : Cxt G Φ n X S W) (h : fnB G S f x = true) : Gl X x ∧ (x == ("__debug__" : Str)) = false ∧ ∃ fi, G.fns[f]? = some fi ∧ X.mg x = some (.ref (He.fAd X.K fi.d.at_)) := by
  unfold fnB at h
  rw [Bool.and_eq_true, Bool.and_eq_true] at h
  obtain ⟨⟨h1, h2⟩, h3⟩ := h
  refine ⟨isGl_ok C h1, by simpa using h2, ?_⟩
  cases e : G.fns[f]? with
  | none => rw [e] at h3; cases h3
  | some fi =>
    rw [e] at h3
    exact ⟨fi, rfl, C.fac.glo f fi x e (beq_iff_eq.mp h3)⟩
theorem z_call0 (C : Cxt G Φ n X S W) (Ar : Arity G Φ) {f : Nat} {x : Str} (h : fnB G S f x = true) : PE X (.Call (.Name x p) [] [] pos) (zE G X B W m fun ρ μ => Φ f [] μ) := by
  obtain ⟨g1, g2, fi, e1, e2⟩ := fnB_ok C h
  obtain ⟨fi', fd, k, e1', hk, F, bd, kp⟩ := C.fns f fi e1
  rw [e1] at e1'
  cases e1'
  refine PE.imp (pe_callZ0 F (C.room.mono (by omega)) g1 e2 kp bd (passAt C.tk) g2) fun σ H Q ⟨w, ρ, μ, Co, So, P⟩ => ?_
  by_cases hl : ([] : List D).length = fi.ps.length
  · exact sp_of Co RepL.nil hl P
  · have P' : PostE X.K G.toGi m H w Q (WE W σ) (Φ f [] μ) := P
    rw [Ar f fi [] μ e1 hl] at P'
    exact P'.elim
theorem z_call (C : Cxt G Φ n X S W) (Ar : Arity G Φ) {f : Nat} {x : Str} {gs : Rho → Mu → R (List D)} (h : fnB G S f x = true) (hs : PA X (a :: xs) (zA G X B W false gs)) (hd : hdOk a = true) (hp : (backTo pos (starEach xs X.env)).any (·.1) = false) :
    PE X (.Call (.Name x p) (a :: xs) [] pos) (zE G X B W m fun ρ μ => (gs ρ μ).bind fun ds μ => Φ f ds μ) := by
  obtain ⟨g1, g2, fi, e1, e2⟩ := fnB_ok C h
  obtain ⟨fi', fd, k, e1', hk, F, bd, kp⟩ := C.fns f fi e1
  rw [e1] at e1'
  cases e1'
  refine PE.imp (pe_callS F (C.room.mono (by omega)) g1 e2 kp bd (passAt C.tk) hs g2 (star_ok hd) hp) fun σ H Q ⟨w, ρ, μ, Co, So, P⟩ => ?_
  refine ⟨w, ρ, μ, Co, So, P.bind fun ds μ1 _ P1 vs H1 w1 s1 C1 r1 => ?_⟩
  by_cases hl : ds.length = fi.ps.length
  · exact sp_of C1 r1.pure hl (PostE.shift s1 P1)
  · rw [Ar f fi ds μ1 e1 hl] at P1
    exact P1.elim
/-- a method's call, by the receiver's class -/
theorem methF_ok {o : D} {μ : Mu} {mt f : Nat} (e : methF G.cs mt μ o = some f) : ∃ c fs ci, asO G.cs μ o = some (c, fs) ∧ G.cs[c]? = some ci ∧ (mt, f) ∈ ci.mts ∧ lookF mt fs = none := by
  unfold methF at e
  cases e1 : asO G.cs μ o with
  | none => rw [e1] at e; cases e
  | some q =>
    obtain ⟨c, fs⟩ := q
    rw [e1] at e
    cases e2 : methOf G.cs c mt with
    | none => simp only [e2] at e; cases e
    | some f' =>
      cases e3 : lookF mt fs with
      | some d => simp only [e2, e3] at e; cases e
      | none =>
        simp only [e2, e3] at e
        have ef : f' = f := Option.some.inj e
        unfold methOf at e2
        cases e4 : G.cs[c]? with
        | none => rw [e4] at e2; cases e2
        | some ci =>
          rw [e4] at e2
          cases e5 : ci.mts.find? (fun p => p.1 == mt) with
          | none => simp only [e5] at e2; cases e2
          | some q =>
            simp only [e5] at e2
            have hm := List.mem_of_find?_eq_some e5
            have hq := List.find?_some e5
            have : q.1 = mt := beq_iff_eq.mp hq
            have e6 : q.2 = f' := Option.some.inj e2
            exact ⟨c, fs, ci, rfl, e4, by rw [← this, ← ef, ← e6]; exact hm, e3⟩
theorem nm_lt {f : Nat} {nm : Str} (h : nmB G f nm = true) : f < G.nms.length ∧ G.nm f = nm := by
  have e1 : G.nms[f]? = some nm := beq_iff_eq.mp h
  exact ⟨(List.getElem?_eq_some_iff.mp e1).1, by unfold Gi.nm; rw [e1]⟩
/-- what a method's rule asks where the receiver has come -/
theorem meth_ask (C : Cxt G Φ n X S W) (Ar : Arity G Φ) {mt : Nat} {nm : Str} (h1 : nmB G mt nm = true) {x : D} {v : V} {μ1 : Mu} {w1 : Wd} {H1 : Hp} (C1 : Cok X.K G.toGi w1 H1 μ1) (r1 : Rep X.K G.toGi w1 x v) {c f : Nat} {fs : List (Nat × D)} {ci : CI}
    (e1 : asO G.cs μ1 x = some (c, fs)) (e2 : G.cs[c]? = some ci) (e3 : (mt, f) ∈ ci.mts) (e4 : lookF mt fs = none) {t : (List V → Hp → Prop) → Prop} {Q : VK} {E : XK} (q : ∀ (np : Nat), (∀ fi, G.fns[f]? = some fi → np = fi.ps.length) → t fun vs H2 => spF X.K G.toGi np (Φ f) (v :: vs) H2 Q E) :
    ∃ (C f : Addr) (fd : FuncData) (ps : List Str) (sp : Sp) (a dx : Addr) (fs : List (Str × V)), v = .ref a ∧ H1 a = some (.ins C dx fs) ∧ Cls X.K C ∧ Meth X.K C nm f ∧ FnOk X.prog X.w X.K X.mg X.base (L2.CX X.prog X.w) n f fd ps sp ∧ Binds X.K fd ps [] ∧ fs.lookup nm = none ∧ t fun vs H2 => sp (v :: vs) H2 Q E := by
  obtain ⟨hmt, hnm⟩ := nm_lt h1
  obtain ⟨a, dx, vs, ev, hi, rf⟩ := RepB.asO (G := G.toGi) C1 e1 (RepB.of C1 r1)
  obtain ⟨fi, ef, hm⟩ := C.fac.mth c ci mt f e2 e3
  obtain ⟨fi', fd, k, ef', hk, F, bd, kp⟩ := C.fns f fi ef
  rw [ef] at ef'
  cases ef'
  rw [hnm] at hm
  have l := lookF_none C.fac.nmi hmt rf e4
  rw [hnm] at l
  exact ⟨_, _, fd, fi.ps, _, a, dx, vs, ev, hi, (C.fac.cls c ci e2).1, hm, F.mono (by omega), bd, l, q _ fun fi2 h => by rw [ef] at h; cases h; rfl⟩
theorem z_meth0 (C : Cxt G Φ n X S W) (Ar : Arity G Φ) {mt : Nat} {nm : Str} {ga : Rho → Mu → R D} (h1 : nmB G mt nm = true) (ha : PE X a (zE G X B W false ga)) (hb : baseB a = true) {ap : Pos} (hl : (ap.endLine == pos.line) = true) :
    PE X (.Call (.Attribute a nm ap) [] [] pos) (zE G X B W m fun ρ μ => (ga ρ μ).bind fun x μ => match methF G.cs mt μ x with
      | some f => Φ f [x] μ
      | none => .bad) := by
  refine PE.imp (pe_methD0 (E := WE W) ha C.room (passAt C.tk) (base_ok hb) hl) fun σ H Q ⟨w, ρ, μ, Co, So, P⟩ => ?_
  refine ⟨w, ρ, μ, Co, So, P.bind fun x μ1 _ P1 v H1 w1 s1 C1 r1 => ?_⟩
  cases e0 : methF G.cs mt μ1 x with
  | none => rw [e0] at P1; exact P1.elim
  | some f =>
    rw [e0] at P1
    obtain ⟨c, fs, ci, e1, e2, e3, e4⟩ := methF_ok e0
    refine meth_ask C Ar h1 C1 r1 e1 e2 e3 e4 (t := fun k => k [] H1) fun np hnp => ?_
    obtain ⟨fi, ef, _⟩ := C.fac.mth c ci mt f e2 e3
    have enp := hnp fi ef
    by_cases hlen : ([x] : List D).length = fi.ps.length
    · exact sp_of C1 (RepL.cons r1 RepL.nil) (by rw [enp]; exact hlen) (PostE.shift s1 P1)
    · dsimp only at P1
      rw [Ar f fi [x] μ1 ef hlen] at P1
      exact P1.elim
theorem z_meth (C : Cxt G Φ n X S W) (Ar : Arity G Φ) {mt : Nat} {nm : Str} {ga : Rho → Mu → R D} {gs : Rho → Mu → R (List D)} (h1 : nmB G mt nm = true) (ha : PE X a (zE G X B W false ga)) (hb : baseB a = true) {ap : Pos} (hl : (ap.endLine == pos.line) = true)
    (hs : PA X (b :: xs) (zA G X B W false gs)) (hd : hdOk b = true) (hp : (backTo pos (starEach xs X.env)).any (·.1) = false)
    (hf : methodCallForm ((b :: xs).length + ([] : List Keyword).length) (backTo pos (starEach (b :: xs) X.env)) (backToKw pos (keywordEach [] X.env)) = true) :
    PE X (.Call (.Attribute a nm ap) (b :: xs) [] pos) (zE G X B W m fun ρ μ => (ga ρ μ).bind fun x μ => match methF G.cs mt μ x with
      | some f => (gs ρ μ).bind fun ds μ => Φ f (x :: ds) μ
      | none => .bad) := by
  refine PE.imp (pe_methD (E := WE W) ha C.room (passAt C.tk) hs (base_ok hb) hl hf (star_ok hd) hp) fun σ H Q ⟨w, ρ, μ, Co, So, P⟩ => ?_
  refine ⟨w, ρ, μ, Co, So, P.bind fun x μ1 _ P1 v H1 w1 s1 C1 r1 => ?_⟩
  cases e0 : methF G.cs mt μ1 x with
  | none => rw [e0] at P1; exact P1.elim
  | some f =>
    rw [e0] at P1
    obtain ⟨c, fs, ci, e1, e2, e3, e4⟩ := methF_ok e0
    refine meth_ask C Ar h1 C1 r1 e1 e2 e3 e4 (t := fun k => zA G X B W false gs σ H1 k) fun np hnp => ?_
    obtain ⟨fi, ef, _⟩ := C.fac.mth c ci mt f e2 e3
    have enp := hnp fi ef
    refine ⟨w1, ρ, μ1, C1, So.step s1, (PostE.shift s1 P1).bind fun ds μ2 _ P2 vs H2 w2 s2 C2 r2 => ?_⟩
    by_cases hlen : (x :: ds).length = fi.ps.length
    · exact sp_of C2 (RepL.cons (Rep.le s2.le x r1) r2.pure) (by rw [enp]; exact hlen) (PostE.shift s2 P2)
    · rw [Ar f fi _ μ2 ef hlen] at P2
      exact P2.elim
/-- a class's call -/
theorem clsB_ok {c : Nat} {x : Str} (C : Cxt G Φ n X S W) (h : clsB G S c x = true) : Gl X x ∧ (x == ("__debug__" : Str)) = false ∧ ∃ ci fi, G.cs[c]? = some ci ∧ G.fns[ci.ini]? = some fi ∧ X.mg x = some (.ref (clsA X.K G.toGi c)) ∧ Mk X.K (clsA X.K G.toGi c) (He.fAd X.K fi.d.at_) := by
  unfold clsB at h
  rw [Bool.and_eq_true, Bool.and_eq_true] at h
  obtain ⟨⟨h1, h2⟩, h3⟩ := h
  refine ⟨isGl_ok C h1, by simpa using h2, ?_⟩
  cases e : G.cs[c]? with
  | none => rw [e] at h3; cases h3
  | some ci =>
    rw [e] at h3
    obtain ⟨_, k2, fi, k3, k4⟩ := C.fac.cls c ci e
    have ex : G.nm ci.nm = x := beq_iff_eq.mp h3
    rw [ex] at k2
    exact ⟨ci, fi, rfl, k3, k2, k4⟩
theorem cons_cell {K : PySem.W.Frag} {w : Wd} {H : Hp} {μ : Mu} {c : Nat} {x dx : Addr} (C : Cok K G.toGi w H μ) (hx : H x = none) (hd : H dx = none) (ne : dx ≠ x) :
    ∃ w', Step H w (upd (upd H dx (.own x)) x (.ins (clsA K G.toGi c) dx [])) w' ∧ Cok K G.toGi w' (upd (upd H dx (.own x)) x (.ins (clsA K G.toGi c) dx [])) (μ ++ [.obj c []]) ∧ Rep K G.toGi w' (.loc μ.length) (.ref x) := by
  have hx' : (upd H dx (.own x)) x = none := by rw [upd_ne ne.symm]; exact hx
  have s1 : Step H w (upd H dx (.own x)) w := Step.bare hd
  have C1 : Cok K G.toGi w (upd H dx (.own x)) μ := Cok.bare C hd
  exact ⟨_, s1.trans (Step.cell hx'), Cok.cell C1 hx' ⟨dx, [], upd_same, rfl⟩, x, rfl, by
    show (w.α ++ [x])[μ.length]? = some x
    rw [← C.len]
    simp⟩
theorem cons_froz {K : PySem.W.Frag} {w : Wd} {H : Hp} {μ : Mu} {c : Nat} {x dx : Addr} {ds : List D} {vs : List V} (C : Cok K G.toGi w H μ) (hx : H x = none) (hd : H dx = none) (ne : dx ≠ x) (r : RepL K G.toGi w ds vs) (hl : ds.length = (fldOf G.cs c).length) :
    ∃ w', Step H w (upd (upd (upd H dx (.own x)) x (.ins (clsA K G.toGi c) dx [])) x (.ins (clsA K G.toGi c) dx (((fldOf G.cs c).map G.nm).zip vs))) w' ∧
      Cok K G.toGi w' (upd (upd (upd H dx (.own x)) x (.ins (clsA K G.toGi c) dx [])) x (.ins (clsA K G.toGi c) dx (((fldOf G.cs c).map G.nm).zip vs))) μ ∧ Rep K G.toGi w' (.obj c ds) (.ref x) := by
  have hx' : (upd H dx (.own x)) x = none := by rw [upd_ne ne.symm]; exact hx
  have s1 : Step H w (upd H dx (.own x)) w := Step.bare hd
  have C1 : Cok K G.toGi w (upd H dx (.own x)) μ := Cok.bare C hd
  rw [upd_upd]
  refine ⟨_, s1.trans (Step.lay C1 hx'), Cok.lay C1 hx', x, dx, _, rfl, upd_same, ?_, ?_⟩
  · rw [List.map_fst_zip]
    rw [List.length_map, r.length, hl]
    exact Nat.le_refl _
  · have e : ((((fldOf G.cs c).map G.nm).zip vs).map (·.2)) = vs := by
      rw [List.map_snd_zip]
      rw [List.length_map, r.length, hl]
      exact Nat.le_refl _
    rw [e]
    exact RepL.le (Step.lay C1 hx').le ds r
theorem make_ask (C : Cxt G Φ n X S W) (Ar : Arity G Φ) {c : Nat} {ci : CI} {fi : FI} (e1 : G.cs[c]? = some ci) (e2 : G.fns[ci.ini]? = some fi) {ds : List D} {vs : List V} {μ : Mu} {w : Wd} {H : Hp} {Q : VK} {E : XK} (Co : Cok X.K G.toGi w H μ) (r : RepL X.K G.toGi w ds vs)
    (P : PostE X.K G.toGi m H w Q E (makeD G.cs Φ c ds μ)) : ∀ x dx, H x = none → H dx = none → dx ≠ x →
      (match ci.frz with
        | true => spI X.K G.toGi c ci.fld
        | false => spF X.K G.toGi fi.ps.length (Φ ci.ini)) (.ref x :: vs) (upd (upd H dx (.own x)) x (.ins (clsA X.K G.toGi c) dx [])) (fun (v : V) H2 => v = V.non ∧ Q (.ref x) H2) E := by
  intro x dx hx hd ne
  unfold makeD at P
  rw [e1] at P
  dsimp only at P
  have hfl : fldOf G.cs c = ci.fld := by unfold fldOf; rw [e1]
  cases hz : ci.frz with
  | true =>
    rw [hz] at P
    dsimp only at P ⊢
    by_cases hl : ds.length = ci.fld.length
    · rw [if_pos hl] at P
      obtain ⟨w', s', C', r'⟩ := cons_froz (c := c) Co hx hd ne r (by rw [hfl]; exact hl)
      rw [hfl] at s' C'
      exact ⟨x, dx, vs, rfl, by rw [r.length]; exact hl, upd_same, rfl, P (.ref x) _ w' s' C' (RepM.of C' r')⟩
    · rw [if_neg hl] at P
      exact P.elim
  | false =>
    rw [hz] at P
    dsimp only at P ⊢
    obtain ⟨w', s', C', r'⟩ := cons_cell (c := c) Co hx hd ne
    by_cases hl : (D.loc μ.length :: ds).length = fi.ps.length
    · refine ⟨w', _, _, C', RepL.cons r' (RepL.le s'.le ds r), hl, ?_⟩
      cases e : Φ ci.ini (.loc μ.length :: ds) (μ ++ [.obj c []]) with
      | bad => rw [e] at P; exact P.elim
      | ex c0 a0 μ0 =>
        rw [e] at P
        exact ExP.shift s' P
      | ok d μ2 =>
        rw [e] at P
        cases d with
        | non =>
          intro v H2 w2 s2 C2 r2
          exact ⟨r2, P (.ref x) H2 w2 (s'.trans s2) C2 (RepM.of C2 (Rep.le s2.le _ r'))⟩
        | _ => exact P.elim
    · rw [Ar ci.ini fi _ _ e2 hl] at P
      exact P.elim
theorem z_make (C : Cxt G Φ n X S W) (Ar : Arity G Φ) {c : Nat} {x : Str} {gs : Rho → Mu → R (List D)} (h : clsB G S c x = true) (hs : PA X (a :: xs) (zA G X B W false gs)) (hd : hdOk a = true) (hp : (backTo pos (starEach xs X.env)).any (·.1) = false) :
    PE X (.Call (.Name x p) (a :: xs) [] pos) (zE G X B W m fun ρ μ => (gs ρ μ).bind fun ds μ => makeD G.cs Φ c ds μ) := by
  obtain ⟨g1, g2, ci, fi, e1, e2, e3, M⟩ := clsB_ok C h
  have key : ∃ fd k, k + 1 ≤ n ∧ FnOk X.prog X.w X.K X.mg X.base (L2.CX X.prog X.w) k (He.fAd X.K fi.d.at_) fd fi.ps (match ci.frz with
      | true => spI X.K G.toGi c ci.fld
      | false => spF X.K G.toGi fi.ps.length (Φ ci.ini)) ∧ Binds X.K fd fi.ps [] := by
    cases hz : ci.frz with
    | true =>
      obtain ⟨fi', fd, k, e, hk, F, bd, _⟩ := C.ini c ci e1 hz
      rw [e2] at e
      cases e
      exact ⟨fd, k, hk, F, bd⟩
    | false =>
      obtain ⟨fi', fd, k, e, hk, F, bd, _⟩ := C.fns ci.ini fi e2
      rw [e2] at e
      cases e
      exact ⟨fd, k, hk, F, bd⟩
  obtain ⟨fd, k, hk, F, bd⟩ := key
  refine PE.imp (pe_makeZ (E := WE W) M F (C.room.mono hk) g1 e3 bd (passAt C.tk) hs g2 (star_ok hd) hp) fun σ H Q ⟨w, ρ, μ, Co, So, P⟩ => ?_
  exact ⟨w, ρ, μ, Co, So, P.bind fun ds μ1 _ P1 vs H1 w1 s1 C1 r1 => make_ask C Ar e1 e2 C1 r1.pure (PostE.shift s1 P1)⟩
theorem z_make0 (C : Cxt G Φ n X S W) (Ar : Arity G Φ) {c : Nat} {x : Str} (h : clsB G S c x = true) : PE X (.Call (.Name x p) [] [] pos) (zE G X B W m fun ρ μ => makeD G.cs Φ c [] μ) := by
  obtain ⟨g1, g2, ci, fi, e1, e2, e3, M⟩ := clsB_ok C h
  have key : ∃ fd k, k + 1 ≤ n ∧ FnOk X.prog X.w X.K X.mg X.base (L2.CX X.prog X.w) k (He.fAd X.K fi.d.at_) fd fi.ps (match ci.frz with
      | true => spI X.K G.toGi c ci.fld
      | false => spF X.K G.toGi fi.ps.length (Φ ci.ini)) ∧ Binds X.K fd fi.ps [] := by
    cases hz : ci.frz with
    | true =>
      obtain ⟨fi', fd, k, e, hk, F, bd, _⟩ := C.ini c ci e1 hz
      rw [e2] at e
      cases e
      exact ⟨fd, k, hk, F, bd⟩
    | false =>
      obtain ⟨fi', fd, k, e, hk, F, bd, _⟩ := C.fns ci.ini fi e2
      rw [e2] at e
      cases e
      exact ⟨fd, k, hk, F, bd⟩
  obtain ⟨fd, k, hk, F, bd⟩ := key
  refine PE.imp (pe_makeZ0 (E := WE W) M F (C.room.mono hk) g1 e3 bd (passAt C.tk) g2) fun σ H Q ⟨w, ρ, μ, Co, So, P⟩ => ?_
  exact make_ask C Ar e1 e2 Co RepL.nil P
end
end Z

/-! Z10: built-ins, new lists, targets, walks, comprehensions. -/
namespace Z
open PySem PySem.Spec PyProof.Rows L2

section
variable {G : Gs} {Φ : Phi} {n : Nat} {X : Cx} {S : SC} {W : WX} {B : Ent} {m : Bool} {pos p pos' : Pos} {a b c : Expr} {xs : List Expr}
theorem rngOk_iff' {i : Int} (h : rngOk i = true) : -(2 ^ 62) ≤ i ∧ i < 2 ^ 62 := by
  have := rngOk_ble.mp h
  omega
/-! built-ins -/
theorem pe_callV {u : Value} {r : List V → Hp → VK → Prop} {x : Str} {t : TA} (hu : (∃ id, u = .builtin id) ∨ ∃ T, u = .type T) (hc : CallR X u r) (hg : Gl X x) (hm : X.mg x = none) (hv : bootBuiltins x = some u) (ha : PA X (a :: xs) t) (hn : x ≠ "__name__")
    (hdb : (x == ("__debug__" : Str)) = false) (hd : hdOk a = true) (hp : (backTo pos (starEach xs X.env)).any (·.1) = false) : PE X (.Call (.Name x p) (a :: xs) [] pos) (tCB r t) := by
  rcases hu with ⟨id, rfl⟩ | ⟨T, rfl⟩
  · exact pe_callB hc hg hm hv ha hn hdb (star_ok hd) hp
  · exact pe_callTy hc hg hm hv ha hn hdb (star_ok hd) hp
theorem biVal_or (b : Bi) : (∃ id, biVal b = .builtin id) ∨ ∃ T, biVal b = .type T := by
  cases b <;> first | exact .inl ⟨_, rfl⟩ | exact .inr ⟨_, rfl⟩
theorem z_blt (C : Cxt G Φ n X S W) {b : Bi} {x : Str} {gs : Rho → Mu → R (List D)} (h1 : x = biName b) (h2 : freeB G S x = true) (ht : biTail b = []) (hs : PA X (a :: xs) (zA G X B W true gs)) (hd : hdOk a = true) (hp : (backTo pos (starEach xs X.env)).any (·.1) = false) :
    PE X (.Call (.Name x p) (a :: xs) [] pos) (zE G X B W m fun ρ μ => (gs ρ μ).bind fun ds μ => .opt (biD b μ ds) μ) := by
  obtain ⟨g1, g2, g3, g4⟩ := free_ok C h2
  refine PE.imp (pe_callV (biVal_or b) (biZ (G := G.toGi) C.calm b) g1 g2 (by rw [h1]; exact biBoot b) hs g4 g3 hd hp) fun σ H Q ⟨w, ρ, μ, Co, So, P⟩ => ?_
  refine ⟨w, ρ, μ, Co, So, P.bind fun ds μ1 _ P1 vs H1 w1 s1 C1 r1 => ?_⟩
  obtain ⟨d, e, k⟩ := PostE.opt (PostE.shift s1 P1)
  exact ⟨w1, μ1, ds, d, vs, C1, by rw [ht, List.append_nil], r1, e, k⟩
theorem z_isi (C : Cxt G Φ n X S W) {t : Ty} {x : Str} {ga : Rho → Mu → R D} {q : Pos} (h1 : x = biName (.isi t)) (h2 : freeB G S x = true) (h3 : freeB G S (tyName t) = true) (ha : PE X a (zE G X B W true ga)) (hd : hdOk a = true) :
    PE X (.Call (.Name x p) [a, .Name (tyName t) q] [] pos) (zE G X B W m fun ρ μ => ((ga ρ μ).bind fun d μ => .ok [d] μ).bind fun ds μ => .opt (biD (.isi t) μ ds) μ) := by
  obtain ⟨g1, g2, g3, g4⟩ := free_ok C h2
  obtain ⟨k1, k2, k3, k4⟩ := free_ok C h3
  have hs := pa_cons ha (pa_cons (pe_bltn (v := .ty (tyStr t)) (pos := q) k1 k2 (tyBoot t) rfl k4 k3) pa_nil) (star_ok hd)
  refine PE.imp (pe_callV (biVal_or (.isi t)) (biZ (G := G.toGi) C.calm (.isi t)) g1 g2 (by rw [h1]; exact biBoot (.isi t)) hs g4 g3 hd rfl) fun σ H Q ⟨w, ρ, μ, Co, So, P⟩ => ?_
  have P' : PostE X.K G.toGi m H w Q (WE W σ) (((ga ρ μ).bind fun d μ => .ok [d] μ).bind fun ds μ => .opt (biD (.isi t) μ ds) μ) := P
  rw [R.bind_assoc] at P'
  refine ⟨w, ρ, μ, Co, So, P'.bind fun d μ1 _ P1 v H1 w1 s1 C1 r1 => ?_⟩
  obtain ⟨d', e, k⟩ := PostE.opt (PostE.shift s1 P1)
  exact ⟨w1, μ1, [d], d', [v], C1, rfl, ⟨v, [], rfl, r1, rfl⟩, e, k⟩
/-! methods of built-in types -/
def bmId : Bm → String
  | .join => "str.join"
  | .bits => "int.bit_length"
  | .index => "list.index"
theorem z_join (C : Cxt G Φ n X S W) {nm : Str} {ga : Rho → Mu → R D} {gs : Rho → Mu → R (List D)} {ap : Pos} (h1 : nm = "join") (ha : PE X a (zE G X B W true ga)) (hb : baseB a = true) (hl : (ap.endLine == pos.line) = true) (hs : PA X (b :: xs) (zA G X B W true gs)) (hd : hdOk b = true)
    (hp : (backTo pos (starEach xs X.env)).any (·.1) = false) (hf : methodCallForm ((b :: xs).length + ([] : List Keyword).length) (backTo pos (starEach (b :: xs) X.env)) (backToKw pos (keywordEach [] X.env)) = true) :
    PE X (.Call (.Attribute a nm ap) (b :: xs) [] pos) (zE G X B W m fun ρ μ => (ga ρ μ).bind fun x μ => match bmTy .join μ x with
      | true => (gs ρ μ).bind fun ds μ => .opt (bmD .join μ x ds) μ
      | false => .bad) := by
  subst h1
  refine PE.imp (pe_bm PySem.F.plainAttrs_str PySem.F.slot_str_join PySem.F.type_str_join mt_join ha hs (base_ok hb) (by unfold methodCallForm at hf; exact hf) hl (star_ok hd) hp) fun σ H Q ⟨w, ρ, μ, Co, So, P⟩ => ?_
  refine ⟨w, ρ, μ, Co, So, P.bind fun x μ1 _ P1 v H1 w1 s1 C1 r1 => ?_⟩
  cases x with
  | str z =>
    cases (show v = V.str z from r1)
    refine ⟨rfl, w1, ρ, μ1, C1, So.step s1, (PostE.shift s1 P1).bind fun ds μ2 _ P2 vs H2 w2 s2 C2 r2 => ?_⟩
    obtain ⟨d, e, k⟩ := PostE.opt (PostE.shift s2 P2)
    match ds, e, r2 with
    | [l], e, r2 =>
      obtain ⟨u, rfl, ru⟩ := r2.one
      have e' : ((Z.asL μ2 l).bind strsD).bind (fun ys => ite? (joinOk z ys) (D.str (Txt.join z ys))) = some d := e
      cases y : Z.asL μ2 l with
      | none => rw [y] at e'; cases e'
      | some es =>
        rw [y] at e'
        cases y2 : strsD es with
        | none => rw [show (some es).bind strsD = none from y2] at e'; cases e'
        | some zs =>
          rw [show (some es).bind strsD = some zs from y2] at e'
          obtain ⟨e3, e4⟩ := ite_some (show ite? (joinOk z zs) (D.str (Txt.join z zs)) = some d from e')
          subst e4
          obtain ⟨q, vs, rfl, hq, rr⟩ := RepB.asL C2 y ru
          have ev := rr.strsOf y2
          subst ev
          exact ⟨z, q, zs, rfl, rfl, .inl hq, of_decide_eq_true e3, k.here C2 rfl⟩
    | [], e, _ => cases e
    | _ :: _ :: _, e, _ => cases e
  | _ => exact P1.elim
theorem z_bits (C : Cxt G Φ n X S W) {nm : Str} {ga : Rho → Mu → R D} {ap : Pos} (h1 : nm = "bit_length") (ha : PE X a (zE G X B W true ga)) (hb : baseB a = true) (hl : (ap.endLine == pos.line) = true) :
    PE X (.Call (.Attribute a nm ap) [] [] pos) (zE G X B W m fun ρ μ => (ga ρ μ).bind fun x μ => match bmTy .bits μ x with
      | true => (R.ok [] μ).bind fun ds μ => .opt (bmD .bits μ x ds) μ
      | false => .bad) := by
  subst h1
  refine PE.imp (pe_bits ha (base_ok hb) hl) fun σ H Q ⟨w, ρ, μ, Co, So, P⟩ => ?_
  refine ⟨w, ρ, μ, Co, So, P.bind fun x μ1 _ P1 v H1 w1 s1 C1 r1 => ?_⟩
  cases x with
  | int z =>
    cases (show v = V.int z from r1)
    exact ⟨z, rfl, post_val (G := G) (PostE.shift s1 P1) C1 (v := .int (Builtin.Int.intBits z : Nat)) rfl⟩
  | _ => exact P1.elim
theorem ixInt_at : ∀ {l : List Int} {x : Int} {n : Nat}, ixInt x l = some n → l[n]? = some x ∧ ∀ (k : Nat) (y : Int), k < n → l[k]? = some y → y ≠ x
  | [], x, n, h => by cases h
  | y :: l, x, n, h => by
    unfold ixInt at h
    split at h
    · rename_i e
      cases h
      exact ⟨by rw [e]; rfl, fun k y hk => absurd hk (Nat.not_lt_zero _)⟩
    · rename_i e
      cases hr : ixInt x l with
      | none => rw [hr] at h; cases h
      | some m =>
        rw [hr] at h
        cases h
        obtain ⟨h1, h2⟩ := ixInt_at hr
        refine ⟨h1, fun k z hk hz => ?_⟩
        have hk : k < m + 1 := hk
        cases k with
        | zero => cases hz; exact e
        | succ k => exact h2 k z (by omega) hz
theorem z_index (C : Cxt G Φ n X S W) {nm : Str} {ga : Rho → Mu → R D} {gs : Rho → Mu → R (List D)} {ap : Pos} (h1 : nm = "index") (ha : PE X a (zE G X B W true ga)) (hb : baseB a = true) (hl : (ap.endLine == pos.line) = true) (hs : PA X (b :: xs) (zA G X B W true gs)) (hd : hdOk b = true)
    (hp : (backTo pos (starEach xs X.env)).any (·.1) = false) (hf : methodCallForm ((b :: xs).length + ([] : List Keyword).length) (backTo pos (starEach (b :: xs) X.env)) (backToKw pos (keywordEach [] X.env)) = true) :
    PE X (.Call (.Attribute a nm ap) (b :: xs) [] pos) (zE G X B W m fun ρ μ => (ga ρ μ).bind fun x μ => match bmTy .index μ x with
      | true => (gs ρ μ).bind fun ds μ => .opt (bmD .index μ x ds) μ
      | false => .bad) := by
  subst h1
  refine PE.imp (pe_bm PySem.F.plainAttrs_list PySem.F.slot_list_index PySem.F.type_list_index mt_index ha hs (base_ok hb) (by unfold methodCallForm at hf; exact hf) hl (star_ok hd) hp) fun σ H Q ⟨w, ρ, μ, Co, So, P⟩ => ?_
  refine ⟨w, ρ, μ, Co, So, P.bind fun x μ1 _ P1 v H1 w1 s1 C1 r1 => ?_⟩
  have P1' : PostE X.K G.toGi m H w Q (WE W σ) (match (Z.asL μ1 x).isSome with
      | true => (gs ρ μ1).bind fun ds μ => .opt (bmD .index μ x ds) μ
      | false => .bad) := P1
  cases y : Z.asL μ1 x with
  | none => rw [y] at P1'; exact P1'.elim
  | some es =>
    rw [y] at P1'
    obtain ⟨q, zs, e0, hq, rr⟩ := RepB.asL C1 y r1
    refine ⟨?_, w1, ρ, μ1, C1, So.step s1, (PostE.shift s1 P1').bind fun ds μ2 _ P2 vs H2 w2 s2 C2 r2 => ?_⟩
    · rw [e0]; exact .inl ⟨rfl, _, hq⟩
    obtain ⟨d, e, k⟩ := PostE.opt (PostE.shift s2 P2)
    match ds, e, r2 with
    | [.int i], e, r2 =>
      obtain ⟨u, rfl, ru⟩ := r2.one
      cases (show u = V.int i from ru)
      have e' : ((Z.asL μ2 x).bind intsD).bind (fun l => (ixInt i l).map fun n => D.int (n : Nat)) = some d := e
      cases y2 : Z.asL μ2 x with
      | none => rw [y2] at e'; cases e'
      | some es2 =>
        rw [y2] at e'
        cases y3 : intsD es2 with
        | none => rw [show (some es2).bind intsD = none from y3] at e'; cases e'
        | some l =>
          rw [show (some es2).bind intsD = some l from y3] at e'
          have e'' : (ixInt i l).map (fun n => D.int (n : Nat)) = some d := e'
          obtain ⟨j, hj, rfl⟩ := Option.map_eq_some_iff.mp e''
          have rx : RepB X.K G.toGi w2 H2 x v := RepB.step s2 r1
          obtain ⟨q2, zs2, e2, hq2, rr2⟩ := RepB.asL C2 y2 rx
          have ev := rr2.intsOf y3
          subst ev
          obtain ⟨g1, g2⟩ := ixInt_at hj
          refine ⟨q2, l.map V.int, .int i, j, .int i, e2, rfl, hq2, rfl, ?_, by rw [List.getElem?_map, g1]; rfl, by simp [eqV], fun m z' hm hz => ?_, k.here C2 rfl⟩
          · rw [List.all_eq_true]
            intro z hz
            obtain ⟨y, _, rfl⟩ := List.mem_map.mp hz
            rfl
          · rw [List.getElem?_map] at hz
            obtain ⟨y, hy, rfl⟩ := Option.map_eq_some_iff.mp hz
            have := g2 m y hm hy
            simp [eqV, this]
    | [], e, _ => cases e
    | _ :: _ :: _, e, _ => exact absurd e (by intro z; cases x <;> (simp [bmD] at z))
/-! xs[::-1], list(range(..)), isinstance(x, (a, b)) -/
theorem RepL.reverse {K : PySem.W.Frag} {G : Gi} {w : Wd} : ∀ {ds : List D} {vs : List V}, RepL K G w ds vs → RepL K G w ds.reverse vs.reverse
  | [], vs, h => by
    cases (show vs = [] from h)
    exact h
  | d :: ds, vs, h => by
    obtain ⟨v, us, rfl, hv, hr⟩ := h
    rw [List.reverse_cons, List.reverse_cons]
    exact RepL.append (RepL.reverse hr) ⟨v, [], rfl, hv, rfl⟩
theorem z_rev {k : Nat} {p1 p2 p3 : Pos} {ga : Rho → Mu → R D} (ha : PE X a (zE G X B W true ga)) :
    PE X (.Subscript a (.Slice none none (some (.UnaryOp .USub (.Constant (.int 1) k p1) p2)) p3) pos) (zE G X B W m fun ρ μ => (ga ρ μ).bind fun x μ => .opt ((Z.asL μ x).map fun xs => .lst xs.reverse) μ) := by
  refine PE.imp (pe_revL ha) fun σ H Q ⟨w, ρ, μ, Co, So, P⟩ => ?_
  refine ⟨w, ρ, μ, Co, So, P.bind fun x μ1 _ P1 v H1 w1 s1 C1 r1 => ?_⟩
  obtain ⟨d, e, k⟩ := PostE.opt (PostE.shift s1 P1)
  cases y : Z.asL μ1 x with
  | none => rw [y] at e; cases e
  | some es =>
    rw [y] at e
    cases e
    obtain ⟨q, zs, e0, hq, rr⟩ := RepB.asL C1 y r1
    exact ⟨q, zs, e0, hq, fun p hp => k.newL C1 rr.reverse p hp⟩
theorem rgV_rep {K : PySem.W.Frag} {G : Gi} {w : Wd} (i : Int) (k : Nat) : RepL K G w (rngItems i k) ((List.range k).map fun n => V.int (i + (n : Nat))) := by
  unfold rngItems
  generalize List.range k = l
  induction l with
  | nil => rfl
  | cons x l ih => exact ⟨_, _, rfl, rfl, ih⟩
theorem z_lrg1 (C : Cxt G Φ n X S W) {x y : Str} {p2 : Pos} {ga : Rho → Mu → R D} (h1 : x = "list") (h2 : freeB G S x = true) (h3 : y = "range") (h4 : freeB G S y = true) (ha : PE X a (zE G X B W true ga)) (hd : hdOk a = true) :
    PE X (.Call (.Name x p) [.Call (.Name y p2) [a] [] pos] [] pos') (zE G X B W m fun ρ μ => (ga ρ μ).bind fun x μ => .opt ((lrgD [x]).map .lst) μ) := by
  obtain ⟨g1, g2, g3, g4⟩ := free_ok C h2
  obtain ⟨k1, k2, k3, k4⟩ := free_ok C h4
  subst h1 h3
  refine PE.imp (pe_listRg C.calm g1 g2 (prg_1 k1 k2 ha (star_ok hd))) fun σ H Q ⟨w, ρ, μ, Co, So, P⟩ => ?_
  refine ⟨w, ρ, μ, Co, So, P.bind fun x μ1 _ P1 v H1 w1 s1 C1 r1 => ?_⟩
  obtain ⟨d, e, k⟩ := PostE.opt (PostE.shift s1 P1)
  cases x with
  | int j =>
    have e' : (ite? (rngOk j && fits j.toNat) (rngItems 0 j.toNat)).map D.lst = some d := e
    cases hz : (rngOk j && fits j.toNat) with
    | false => rw [hz] at e'; cases e'
    | true =>
      rw [hz] at e'
      cases e'
      rw [Bool.and_eq_true] at hz
      obtain ⟨q1, q2⟩ := rngOk_iff' hz.1
      have q3 := fits_le hz.2
      cases (show v = V.int j from r1)
      refine ⟨j, rfl, ⟨by omega, by omega, q1, q2, by rw [Int.sub_zero]; exact q3⟩, fun q hq => ?_⟩
      have e2 : L2.rgV 0 j = (List.range j.toNat).map fun n => V.int (0 + (n : Nat)) := by unfold L2.rgV; rw [Int.sub_zero]
      rw [e2]
      exact k.newL C1 (rgV_rep 0 j.toNat) q hq
  | _ => cases e
theorem z_lrg2 (C : Cxt G Φ n X S W) {x y : Str} {p2 : Pos} {ga gb : Rho → Mu → R D} (h1 : x = "list") (h2 : freeB G S x = true) (h3 : y = "range") (h4 : freeB G S y = true) (ha : PE X a (zE G X B W true ga)) (hb : PE X b (zE G X B W true gb)) (hd : hdOk a = true) (hd2 : hdOk b = true) :
    PE X (.Call (.Name x p) [.Call (.Name y p2) [a, b] [] pos] [] pos') (zE G X B W m fun ρ μ => (ga ρ μ).bind fun x μ => (gb ρ μ).bind fun y μ => .opt ((lrgD [x, y]).map .lst) μ) := by
  obtain ⟨g1, g2, g3, g4⟩ := free_ok C h2
  obtain ⟨k1, k2, k3, k4⟩ := free_ok C h4
  subst h1 h3
  refine PE.imp (pe_listRg C.calm g1 g2 (prg_2 k1 k2 ha hb (by rw [star_ok hd]) (star_ok hd2) (by rw [star_ok hd2]; rfl))) fun σ H Q ⟨w, ρ, μ, Co, So, P⟩ => ?_
  refine ⟨w, ρ, μ, Co, So, P.bind fun x μ1 _ P1 v H1 w1 s1 C1 r1 => ⟨w1, ρ, μ1, C1, So.step s1, (PostE.shift s1 P1).bind fun y μ2 _ P2 u H2 w2 s2 C2 r2 => ?_⟩⟩
  obtain ⟨d, e, k⟩ := PostE.opt (PostE.shift s2 P2)
  cases x with
  | int i =>
    cases y with
    | int j =>
      have e' : (ite? (rngOk i && rngOk j && fits (j - i).toNat) (rngItems i (j - i).toNat)).map D.lst = some d := e
      cases hz : (rngOk i && rngOk j && fits (j - i).toNat) with
      | false => rw [hz] at e'; cases e'
      | true =>
        rw [hz] at e'
        cases e'
        rw [Bool.and_eq_true, Bool.and_eq_true] at hz
        obtain ⟨q1, q2⟩ := rngOk_iff' hz.1.1
        obtain ⟨q4, q5⟩ := rngOk_iff' hz.1.2
        have q3 := fits_le hz.2
        cases (show v = V.int i from r1)
        cases (show u = V.int j from r2)
        refine ⟨i, j, rfl, rfl, ⟨q1, q2, q4, q5, q3⟩, fun q hq => ?_⟩
        exact k.newL C2 (rgV_rep i (j - i).toNat) q hq
    | _ => cases e
  | _ => cases e
theorem z_is2 (C : Cxt G Φ n X S W) {t u : Ty} {x : Str} {q1 q2 tp : Pos} {kk : Nat} {ga : Rho → Mu → R D} (h1 : x = "isinstance") (h2 : freeB G S x = true) (h3 : freeB G S (tyName t) = true) (h4 : freeB G S (tyName u) = true) (ha : PE X a (zE G X B W true ga)) (hd : hdOk a = true) :
    PE X (.Call (.Name x p) [a, .Tuple [.Name (tyName t) q1, .Name (tyName u) q2] kk tp] [] pos) (zE G X B W m fun ρ μ => (ga ρ μ).bind fun x μ => .opt (ite? (Ty.ok μ x) (.bl (t.is μ x || u.is μ x))) μ) := by
  obtain ⟨g1, g2, g3, g4⟩ := free_ok C h2
  obtain ⟨k1, k2, k3, k4⟩ := free_ok C h3
  obtain ⟨l1, l2, l3, l4⟩ := free_ok C h4
  subst h1
  have hs := pa_cons ha (pa_cons (pe_tup (pa_cons (pe_bltn (v := .ty (tyStr t)) (pos := q1) k1 k2 (tyBoot t) rfl k4 k3) (pa_cons (pe_bltn (v := .ty (tyStr u)) (pos := q2) l1 l2 (tyBoot u) rfl l4 l3) pa_nil)) : PE X (.Tuple [.Name (tyName t) q1, .Name (tyName u) q2] kk tp) _) pa_nil) (star_ok hd)
  refine PE.imp (pe_callV (.inl ⟨_, rfl⟩) call_isiT g1 g2 (by decide +kernel) hs g4 g3 hd rfl) fun σ H Q ⟨w, ρ, μ, Co, So, P⟩ => ?_
  refine ⟨w, ρ, μ, Co, So, P.bind fun d μ1 _ P1 v H1 w1 s1 C1 r1 => ?_⟩
  obtain ⟨d', e, k⟩ := PostE.opt (PostE.shift s1 P1)
  obtain ⟨e1, e2⟩ := ite_some e
  subst e2
  refine ⟨by show 2 ≤ sizeLine; decide, fun tq hq => ?_⟩
  have C2 := Cok.lay (o := .tup [.ty (tyStr t), .ty (tyStr u)]) C1 hq
  have s2 := Step.lay (o := .tup [.ty (tyStr t), .ty (tyStr u)]) C1 hq
  obtain ⟨a1, tx, hm, ek⟩ := isi_all C2 (RepB.step s2 (RepM.bor C1 r1)) e1
  refine ⟨v, tq, [.ty (tyStr t), .ty (tyStr u)], .type a1, [.type (tyStr t), .type (tyStr u)], kitTy t a1 || kitTy u a1, rfl, upd_same, .cons (.ty _) (.cons (.ty _) .nil), tx, ?_, ?_⟩
  · show (match PySem.W.kitOne X.K (.type a1) (.type (tyStr t)) with
      | some true => some true
      | some false => (match PySem.W.kitOne X.K (.type a1) (.type (tyStr u)) with
        | some true => some true
        | some false => some false
        | none => none)
      | none => none) = _
    rw [kit_all X.K t a1 hm, kit_all X.K u a1 hm]
    cases kitTy t a1 <;> cases kitTy u a1 <;> rfl
  · rw [ek, ek]
    exact k _ _ _ s2 C2 rfl
/-! parts of slices -/
theorem zo_no : PO X none (zO G X B W fun ρ μ => .ok none μ) := by
  refine ⟨fun pins s σ H Q I h => po_none.run pins s σ H Q I ?_⟩
  obtain ⟨w, ρ, μ, Co, So, P⟩ := h
  exact P H w (.refl H w) Co
theorem zo_so {ga : Rho → Mu → R D} (ha : PE X a (zE G X B W true ga)) : PO X (some a) (zO G X B W fun ρ μ => (ga ρ μ).bind fun x μ => match x with
    | .int i => .ok (some i) μ
    | _ => .bad) := by
  refine ⟨fun pins s σ H Q I h => (po_some ha).run pins s σ H Q I ?_⟩
  obtain ⟨w, ρ, μ, Co, So, P⟩ := h
  refine ⟨w, ρ, μ, Co, So, P.bind fun x μ1 _ P1 v H1 w1 s1 C1 r1 => ?_⟩
  cases x with
  | int i => exact ⟨i, r1, P1 H1 w1 s1 C1⟩
  | _ => exact P1.elim
/-! new lists -/
theorem PostN.lay {K : PySem.W.Frag} {H H1 : Hp} {w w1 : Wd} {μ1 : Mu} {ds : List D} {vs : List V} {Q : VK} {E : XK} (P : PostN K G.toGi H w Q E (.ok ds μ1)) (s1 : Step H w H1 w1) (C1 : Cok K G.toGi w1 H1 μ1) (r : RepL K G.toGi w1 ds vs) :
    ∀ p, H1 p = none → Q (.ref p) (upd H1 p (.lst vs)) := fun p hp => by
  obtain ⟨a1, a2, a3⟩ := Fresh.of s1 C1 hp r
  exact P p _ w1 a1 a2 a3
theorem zn_dis {gs : Rho → Mu → R (List D)} (hs : PA X xs (zA G X B W false gs)) : PE X (.List xs pos) (zN G X B W fun ρ μ => (gs ρ μ).bind fun ds μ => if fits ds.length then .ok ds μ else .bad) := by
  refine PE.imp (pe_lst hs) fun σ H Q ⟨w, ρ, μ, Co, So, P⟩ => ?_
  refine ⟨w, ρ, μ, Co, So, P.bind fun ds μ1 _ P1 vs H1 w1 s1 C1 r1 => ?_⟩
  cases hf : fits ds.length with
  | false => rw [hf] at P1; exact P1.elim
  | true =>
    rw [hf, if_pos rfl] at P1
    have r := r1.pure
    exact ⟨by rw [r.length]; exact fits_le hf, PostN.lay P1 s1 C1 r⟩
theorem zn_cat {ga gb : Rho → Mu → R D} (ha : PE X a (zE G X B W true ga)) (hb : PE X b (zE G X B W true gb)) :
    PE X (.BinOp a .Add b pos) (zN G X B W fun ρ μ => (ga ρ μ).bind fun x μ => (gb ρ μ).bind fun y μ => .opt ((asM μ x).bind fun xs => (asM μ y).bind fun ys => catL xs ys) μ) := by
  refine PE.imp (pe_op op_cat ha hb) fun σ H Q ⟨w, ρ, μ, Co, So, P⟩ => ?_
  refine ⟨w, ρ, μ, Co, So, P.bind fun x μ1 _ P1 v H1 w1 s1 C1 r1 => ⟨w1, ρ, μ1, C1, So.step s1, (PostN.shift s1 P1).bind fun y μ2 _ P2 u H2 w2 s2 C2 r2 => ?_⟩⟩
  have P3 := PostN.shift s2 P2
  have r1' : RepB X.K G.toGi w2 H2 x v := RepB.step s2 r1
  cases e1 : asM μ2 x with
  | none => rw [e1] at P3; exact P3.elim
  | some ds =>
    cases e2 : asM μ2 y with
    | none => rw [e1, e2] at P3; exact P3.elim
    | some es =>
      rw [e1, e2] at P3
      have P4 : PostN X.K G.toGi H2 w2 Q (WE W σ) (.opt (catL ds es) μ2) := P3
      obtain ⟨l1, vs, rfl, q1, k1⟩ := RepB.asM C2 e1 r1'
      obtain ⟨l2, us, rfl, q2, k2⟩ := RepB.asM C2 e2 r2
      unfold catL at P4
      cases hf : fits (ds.length + es.length) with
      | false => rw [hf] at P4; exact P4.elim
      | true =>
        rw [hf] at P4
        exact ⟨l1, l2, vs, us, rfl, rfl, q1, q2, by rw [k1.length, k2.length]; exact fits_le hf, PostN.lay P4 (.refl _ _) C2 (k1.append k2)⟩
theorem zn_rep {ga gb : Rho → Mu → R D} (ha : PE X a (zE G X B W true ga)) (hb : PE X b (zE G X B W true gb)) :
    PE X (.BinOp a .Mult b pos) (zN G X B W fun ρ μ => (ga ρ μ).bind fun x μ => (gb ρ μ).bind fun y μ => .opt ((asM μ x).bind fun xs => match y with
      | .int k => repL xs k
      | _ => none) μ) := by
  refine PE.imp (pe_op op_rep ha hb) fun σ H Q ⟨w, ρ, μ, Co, So, P⟩ => ?_
  refine ⟨w, ρ, μ, Co, So, P.bind fun x μ1 _ P1 v H1 w1 s1 C1 r1 => ⟨w1, ρ, μ1, C1, So.step s1, (PostN.shift s1 P1).bind fun y μ2 _ P2 u H2 w2 s2 C2 r2 => ?_⟩⟩
  have P3 := PostN.shift s2 P2
  have r1' : RepB X.K G.toGi w2 H2 x v := RepB.step s2 r1
  cases e1 : asM μ2 x with
  | none => rw [e1] at P3; exact P3.elim
  | some ds =>
    rw [e1] at P3
    cases y with
    | int kk =>
      have P4 : PostN X.K G.toGi H2 w2 Q (WE W σ) (.opt (repL ds kk) μ2) := P3
      obtain ⟨l1, vs, rfl, q1, k1⟩ := RepB.asM C2 e1 r1'
      unfold repL at P4
      cases hf : (i63 kk && fits (ds.length * kk.toNat)) with
      | false => rw [hf] at P4; exact P4.elim
      | true =>
        rw [hf] at P4
        rw [Bool.and_eq_true] at hf
        obtain ⟨hf1, hf2⟩ := hf
        exact ⟨l1, kk, vs, rfl, r2, q1, i63_lo hf1, i63_hi hf1, by rw [k1.length]; exact fits_le hf2, PostN.lay P4 (.refl _ _) C2 (k1.rep _)⟩
    | _ => exact P3.elim
theorem zn_slc {lo hi : Option Expr} {ga : Rho → Mu → R D} {gl gh : Rho → Mu → R (Option Int)} (ha : PE X a (zE G X B W true ga)) (hl : PO X lo (zO G X B W gl)) (hh : PO X hi (zO G X B W gh)) :
    PE X (.Subscript a (.Slice lo hi none p) pos) (zN G X B W fun ρ μ => (ga ρ μ).bind fun x μ => (gl ρ μ).bind fun l μ => (gh ρ μ).bind fun h μ => .opt ((asL μ x).map fun xs => cutD xs l h) μ) := by
  refine PE.imp (pe_slice sl_list ha hl hh) fun σ H Q ⟨w, ρ, μ, Co, So, P⟩ => ?_
  refine ⟨w, ρ, μ, Co, So, P.bind fun x μ1 _ P1 v H1 w1 s1 C1 r1 => ⟨w1, ρ, μ1, C1, So.step s1, (PostN.shift s1 P1).bind fun l μ2 _ P2 H2 w2 s2 C2 => ⟨w2, ρ, μ2, C2, (So.step s1).step s2, (PostN.shift s2 P2).bind fun h μ3 _ P3 H3 w3 s3 C3 => ?_⟩⟩⟩
  have P4 := PostN.shift s3 P3
  cases e1 : asL μ3 x with
  | none => rw [e1] at P4; exact P4.elim
  | some ds =>
    rw [e1] at P4
    obtain ⟨q, vs, rfl, hq, k1⟩ := RepB.asL C3 e1 (RepB.step s3 (RepB.step s2 r1))
    exact ⟨q, vs, rfl, hq, PostN.lay P4 (.refl _ _) C3 (k1.cut l h)⟩
theorem zn_lof (C : Cxt G Φ n X S W) {x : Str} {ga : Rho → Mu → R D} (h1 : x = "list") (h2 : freeB G S x = true) (ha : PE X a (zE G X B W true ga)) (hd : hdOk a = true) :
    PE X (.Call (.Name x p) [a] [] pos) (zN G X B W fun ρ μ => (ga ρ μ).bind fun x μ => .opt (match x with
      | .tup xs => some xs
      | x => asL μ x) μ) := by
  obtain ⟨g1, g2, g3, g4⟩ := free_ok C h2
  refine PE.imp (pe_callTy call_list_of g1 g2 (by rw [h1]; exact boot_list) (pa_cons ha pa_nil (star_ok hd)) g4 g3 (star_ok hd) rfl) fun σ H Q ⟨w, ρ, μ, Co, So, P⟩ => ?_
  refine ⟨w, ρ, μ, Co, So, P.bind fun x μ1 _ P1 v H1 w1 s1 C1 r1 => ?_⟩
  have P2 := PostN.shift s1 P1
  have lay : ∀ ds, asL μ1 x = some ds → PostN X.K G.toGi H1 w1 Q (WE W σ) (.ok ds μ1) → ∃ p ys, [v] = [.ref p] ∧ (SqL X.K H1 p ys ∨ SqT X.K H1 p ys) ∧ ∀ l, H1 l = none → Q (.ref l) (upd H1 l (.lst ys)) := fun ds e P => by
    obtain ⟨q, vs, rfl, hq, k1⟩ := RepB.asL C1 e r1
    exact ⟨q, vs, rfl, .inl hq, PostN.lay P (.refl _ _) C1 k1⟩
  cases x with
  | tup ds =>
    obtain ⟨q, vs, rfl, hq, k1⟩ := RepB.tup C1 r1
    exact ⟨q, vs, rfl, .inr (SqT.of hq), PostN.lay P2 (.refl _ _) C1 k1⟩
  | lst ds => exact lay ds rfl P2
  | scr ns => exact lay _ rfl P2
  | loc k =>
    cases e : asL μ1 (.loc k) with
    | none =>
      have P3 : PostN X.K G.toGi H1 w1 Q (WE W σ) (.opt (asL μ1 (.loc k)) μ1) := P2
      rw [e] at P3; exact P3.elim
    | some ds =>
      have P3 : PostN X.K G.toGi H1 w1 Q (WE W σ) (.opt (asL μ1 (.loc k)) μ1) := P2
      rw [e] at P3
      exact lay ds e P3
  | _ => exact P2.elim
end
end Z

/-! Z11: targets, walks, comprehensions. -/
namespace Z
open PySem PySem.Spec PyProof.Rows L2

/-! ### wiping -/
theorem wipe_in {σ : L2.St} {i : Nat} : ∀ {vs : List Nat}, i ∈ vs → (wipe σ vs)[i]? = if i < σ.length then some none else none
  | v :: vs, h => by
    unfold wipe
    by_cases hv : v = i
    · subst hv
      rw [List.getElem?_set, wipe_length, if_pos rfl]
    · rw [List.getElem?_set_ne hv]
      rcases List.mem_cons.mp h with z | z
      · exact absurd z.symm hv
      · exact wipe_in z
theorem wipe_set {σ : L2.St} {i : Nat} {x : Option V} {vs : List Nat} (h : i ∈ vs) : wipe (σ.set i x) vs = wipe σ vs := by
  apply List.ext_getElem?
  intro j
  by_cases hj : j ∈ vs
  · rw [wipe_in hj, wipe_in hj, List.length_set]
  · rw [wipe_out hj, wipe_out hj]
    exact List.getElem?_set_ne (fun z => hj (by rw [← z]; exact h))
theorem wipe_wipe {σ : L2.St} {vs : List Nat} : wipe (wipe σ vs) vs = wipe σ vs := by
  apply List.ext_getElem?
  intro j
  by_cases hj : j ∈ vs
  · rw [wipe_in hj, wipe_in hj, wipe_length]
  · rw [wipe_out hj]
/-- only the slots ws were stored into -/
def SetIn (ws : List Nat) (σ σ' : L2.St) : Prop := ∀ vs, (∀ i ∈ ws, i ∈ vs) → wipe σ' vs = wipe σ vs
theorem SetIn.set {σ : L2.St} {i : Nat} {x : Option V} : SetIn [i] σ (σ.set i x) := fun vs h => wipe_set (h i (by simp))
theorem SetIn.nil {σ : L2.St} : SetIn [] σ σ := fun _ _ => rfl
theorem SetIn.app {a b : List Nat} {σ σ1 σ2 : L2.St} (h : SetIn a σ σ1) (k : SetIn b σ1 σ2) : SetIn (a ++ b) σ σ2 := fun vs z =>
  (k vs fun i hi => z i (List.mem_append_right _ hi)).trans (h vs fun i hi => z i (List.mem_append_left _ hi))
theorem wipeR_length (ρ : Rho) : ∀ vs : List Nat, (wipeR ρ vs).length = ρ.length
  | [] => rfl
  | v :: vs => by unfold wipeR; rw [List.length_set, wipeR_length ρ vs]
theorem wipeR_some {ρ : Rho} {i : Nat} {x : Slot} : ∀ {vs : List Nat}, (wipeR ρ vs)[i]? = some x → (x = .emp) ∨ (ρ[i]? = some x ∧ i ∉ vs)
  | [], h => .inr ⟨h, by simp⟩
  | v :: vs, h => by
    unfold wipeR at h
    by_cases e : v = i
    · subst e
      rw [List.getElem?_set, if_pos rfl] at h
      split at h
      · exact .inl (Option.some.inj h).symm
      · cases h
    · rw [List.getElem?_set_ne e] at h
      rcases wipeR_some h with z | ⟨z1, z2⟩
      · exact .inl z
      · exact .inr ⟨z1, by simp; exact ⟨Ne.symm e, z2⟩⟩
section
variable {K : PySem.W.Frag} {G : Gi} {B : Ent} {H : Hp} {w : Wd} {σ : L2.St} {ρ : Rho}
theorem Sok.wipe (S : Sok K G B w H σ ρ) (vs : List Nat) : Sok K G B w H (L2.wipe σ vs) (wipeR ρ vs) := by
  refine ⟨by rw [wipe_length, wipeR_length, S.len], fun i s e => ?_, fun i j xs ys e1 e2 e3 => ?_, S.st⟩
  · rcases wipeR_some e with z | ⟨z1, z2⟩
    · subst z; trivial
    · rw [wipe_out z2]; exact S.slot i s z1
  · rcases wipeR_some e1 with z | ⟨z1, z2⟩
    · cases z
    · rcases wipeR_some e2 with z | ⟨z3, z4⟩
      · cases z
      · rw [wipe_out z2, wipe_out z4] at e3
        exact S.apart i j xs ys z1 z3 e3
/-- a name is given a value -/
theorem Sok.val (S : Sok K G B w H σ ρ) {i : Nat} {d : D} {v : V} {ρ' : Rho} (e : Slot.set ρ i (.val d) = some ρ') (r : Rep K G w d v) : Sok K G B w H (σ.set i (some v)) ρ' := by
  unfold Slot.set at e
  split at e
  · rename_i hl
    cases e
    refine ⟨by rw [List.length_set, List.length_set, S.len], fun j s e => ?_, fun j k xs ys e1 e2 e3 => ?_, S.st⟩
    · by_cases hj : i = j
      · subst hj
        rw [List.getElem?_set_self hl] at e
        cases e
        exact ⟨v, by rw [List.getElem?_set_self (by rw [S.len]; exact hl)], r⟩
      · rw [List.getElem?_set_ne hj] at e ⊢
        exact S.slot j s e
    · have ne : ∀ {j : Nat} {xs : List D}, (List.set ρ i (.val d))[j]? = some (.own xs) → i ≠ j := fun {j xs} e z => by
        subst z
        rw [List.getElem?_set_self hl] at e
        cases e
      have n1 := ne e1
      have n2 := ne e2
      rw [List.getElem?_set_ne n1] at e1 e3
      rw [List.getElem?_set_ne n2] at e2 e3
      exact S.apart j k xs ys e1 e2 e3
  · cases e
/-- a name is given a new list of its own -/
theorem Sok.own (S : Sok K G B w H σ ρ) {i : Nat} {ds : List D} {p : Addr} {vs : List V} {ρ' : Rho} (e : Slot.set ρ i (.own ds) = some ρ') (h1 : H p = some (.lst vs)) (r : RepL K G w ds vs) (na : p ∉ w.α) (nf : w.F p = none) (nB : B.H p = none)
    (new : ∀ (j : Nat) (xs : List D), ρ[j]? = some (.own xs) → σ[j]? ≠ some (some (.ref p))) : Sok K G B w H (σ.set i (some (.ref p))) ρ' := by
  unfold Slot.set at e
  split at e
  · rename_i hl
    cases e
    refine ⟨by rw [List.length_set, List.length_set, S.len], fun j s e => ?_, fun j k xs ys e1 e2 e3 => ?_, S.st⟩
    · by_cases hj : i = j
      · subst hj
        rw [List.getElem?_set_self hl] at e
        cases e
        exact ⟨p, vs, by rw [List.getElem?_set_self (by rw [S.len]; exact hl)], h1, r, na, nf, nB⟩
      · rw [List.getElem?_set_ne hj] at e ⊢
        exact S.slot j s e
    · by_cases hj : i = j
      · by_cases hk : i = k
        · rw [← hj, ← hk]
        · subst hj
          rw [List.getElem?_set_ne hk] at e2 e3
          rw [List.getElem?_set_self (by rw [S.len]; exact hl)] at e3
          exact absurd e3.symm (new k ys e2)
      · by_cases hk : i = k
        · subst hk
          rw [List.getElem?_set_ne hj] at e1 e3
          rw [List.getElem?_set_self (by rw [S.len]; exact hl)] at e3
          exact absurd e3 (new j xs e1)
        · rw [List.getElem?_set_ne hj] at e1 e3
          rw [List.getElem?_set_ne hk] at e2 e3
          exact S.apart j k xs ys e1 e2 e3
  · cases e
end

/-! ### targets -/
section
variable (K : PySem.W.Frag) (G : Gi) (B : Ent)
def gZ (t : Tg) : TG := fun v σ H Q => ∃ w ρ μ d ρ', Cok K G w H μ ∧ Sok K G B w H σ ρ ∧ Rep K G w d v ∧ t.put d ρ = some ρ' ∧ ∀ σ', Sok K G B w H σ' ρ' → SetIn t.slots σ σ' → Q σ' H
def gZs (t : Tgs) : TGs := fun vs σ H Q => ∃ w ρ μ ds ρ', Cok K G w H μ ∧ Sok K G B w H σ ρ ∧ RepL K G w ds vs ∧ t.put ds ρ = some ρ' ∧ ∀ σ', Sok K G B w H σ' ρ' → SetIn t.slots σ σ' → Q σ' H
end
theorem PG.imp {X : Cx} {e : Expr} {t t' : TG} (h : PG X e t) (hi : ∀ v σ H Q, t' v σ H Q → t v σ H Q) : PG X e t' := ⟨fun pins s σ H v u Q I r z => h.run pins s σ H v u Q I r (hi v σ H Q z)⟩
theorem PGs.imp {X : Cx} {e : List Expr} {t t' : TGs} (h : PGs X e t) (hi : ∀ v σ H Q, t' v σ H Q → t v σ H Q) : PGs X e t' := ⟨fun pins s σ H v u Q I r z => h.run pins s σ H v u Q I r (hi v σ H Q z)⟩
theorem PI.imp {X : Cx} {tg e : Expr} {t t' : TI} (h : PI X tg e t) (hi : ∀ σ H Q, t' σ H Q → t σ H Q) : PI X tg e t' := ⟨fun pins s σ H Q I z => h.run pins s σ H Q I (hi σ H Q z)⟩
theorem lookup_ok {S : SC} {x : Str} (h : sto S x = true) : Loc S.sc x := by
  unfold sto at h
  split at h
  · rename_i e; exact .inl e
  · rename_i e; exact .inr e
  · cases h
def Tgs.len : Tgs → Nat
  | .nil => 0
  | .cons _ ts => ts.len + 1
theorem Tgs.put_len : ∀ {ts : Tgs} {ds : List D} {ρ ρ' : Rho}, ts.put ds ρ = some ρ' → ds.length = ts.len
  | .nil, [], _, _, _ => rfl
  | .nil, _ :: _, _, _, h => by cases h
  | .cons _ _, [], _, _, h => by cases h
  | .cons t ts, d :: ds, ρ, ρ', h => by
    have h' : (match t.put d ρ with
      | some ρ' => ts.put ds ρ'
      | none => none) = some ρ' := h
    cases e : t.put d ρ with
    | none => rw [e] at h'; cases h'
    | some ρ1 =>
      rw [e] at h'
      rw [List.length_cons, Tgs.put_len (ts := ts) h']
      rfl
section
variable {G : Gs} {Φ : Phi} {n : Nat} {X : Cx} {S : SC} {W : WX} {B : Ent} {m : Bool} {pos p : Pos} {a b c : Expr} {xs : List Expr}
theorem tgt_ok {t : Tg} {e : Expr} {es : List Expr} {env : Env} (h : agG G t S e = true) : assignEach (e :: es) env = (false, assign e env) :: assignEach es env := by
  cases e <;> first | rfl | (exfalso; cases t <;> cases h)
mutual
theorem zg (B : Ent) (C : Cxt G Φ n X S W) : ∀ (t : Tg) {e : Expr}, agG G t S e = true → PG X e (gZ X.K G.toGi B t)
  | .nam i, e, h => by
    cases e with
    | Name x p =>
      have h' : (slotB S i x && sto S x) = true := h
      rw [Bool.and_eq_true] at h'
      refine PG.imp (pg_name (i := i) C.nd (by rw [C.N]; exact slotB_ok h'.1) (by rw [C.sc]; exact lookup_ok h'.2) (C.st x h'.2)) fun v σ H Q ⟨w, ρ, μ, d, ρ', Co, So, r, e, k⟩ => ?_
      exact k _ (So.val e r) SetIn.set
    | _ => cases h
  | .tup ts, e, h => by
    cases e with
    | Tuple es j p =>
      have h' : agGs G ts S es = true := h
      obtain ⟨h1, h2, h3⟩ := zgs B C ts h'
      refine PG.imp (pg_tup C.calm h1 h2 h3) fun v σ H Q ⟨w, ρ, μ, d, ρ', Co, So, r, e, k⟩ => ?_
      cases d with
      | tup ds =>
        obtain ⟨q, vs, rfl, hq, rl⟩ := r
        have e' : ts.put ds ρ = some ρ' := e
        exact ⟨q, vs, rfl, SqT.of (Co.fz _ _ hq), by rw [rl.length, Tgs.put_len e'], w, ρ, μ, ds, ρ', Co, So, rl, e', k⟩
      | _ => cases e
    | _ => cases h
theorem zgs (B : Ent) (C : Cxt G Φ n X S W) : ∀ (t : Tgs) {es : List Expr}, agGs G t S es = true → PGs X es (gZs X.K G.toGi B t) ∧ (assignEach es X.env).length = t.len ∧ (assignEach es X.env).findIdx? (·.1) = none
  | .nil, es, h => by
    cases es with
    | nil =>
      refine ⟨PGs.imp pgs_nil fun v σ H Q ⟨w, ρ, μ, d, ρ', Co, So, r, e, k⟩ => ?_, rfl, rfl⟩
      cases d with
      | nil =>
        cases e
        exact ⟨r, k σ So SetIn.nil⟩
      | cons _ _ => cases e
    | cons _ _ => cases h
  | .cons t ts, es, h => by
    cases es with
    | nil => cases h
    | cons e es =>
      have h' : (agG G t S e && agGs G ts S es) = true := h
      rw [Bool.and_eq_true] at h'
      have h1 := zg B C t h'.1
      obtain ⟨h2, h3, h4⟩ := zgs B C ts h'.2
      have ae : assignEach (e :: es) X.env = (false, assign e X.env) :: assignEach es X.env := tgt_ok h'.1
      refine ⟨PGs.imp (pgs_cons h1 h2 (by rw [ae]; rfl)) fun v σ H Q ⟨w, ρ, μ, d, ρ', Co, So, r, e, k⟩ => ?_, by rw [ae, List.length_cons, h3]; rfl, by rw [ae]; simp [List.findIdx?_cons, h4]⟩
      cases d with
      | nil => cases e
      | cons d ds =>
        obtain ⟨u, us, rfl, r1, r2⟩ := r
        have e' : (match t.put d ρ with
          | some ρ' => ts.put ds ρ'
          | none => none) = some ρ' := e
        cases e1 : t.put d ρ with
        | none => rw [e1] at e'; cases e'
        | some ρ1 =>
          rw [e1] at e'
          exact ⟨u, us, rfl, w, ρ, μ, d, ρ1, Co, So, r1, e1, fun σ1 So1 s1 => ⟨w, ρ1, μ, ds, ρ', Co, So1, r2, e', fun σ2 So2 s2 => k σ2 So2 (s1.app s2)⟩⟩
end
/-! ### walks -/
theorem Kp.refl {K : PySem.W.Frag} {G : Gi} {H : Hp} {w : Wd} {μ : Mu} (C : Cok K G w H μ) : Kp K G m H w H w := by
  cases m with
  | true => exact Step.refl H w
  | false => exact ⟨⟨μ, C⟩, .refl w⟩
theorem keepL {K : PySem.W.Frag} {G : Gi} {H : Hp} {w : Wd} {ds : List D} {v : V} (r : RepM K G m w H (.lst ds) v) : ∃ a vs, v = .ref a ∧ vs.length = ds.length ∧ ∀ H' w', Kp K G m H w H' w' → H' a = some (.lst vs) ∧ RepL K G w' ds vs := by
  cases m with
  | true =>
    obtain ⟨a, vs, e, q, r⟩ := r
    obtain ⟨z1, z2⟩ := Fb.of q
    exact ⟨a, vs, e, r.length, fun H' w' s => ⟨s.h _ _ z1 z2, RepL.le s.le ds r⟩⟩
  | false =>
    obtain ⟨a, vs, e, q, r⟩ := r
    exact ⟨a, vs, e, r.length, fun H' w' s => by
      obtain ⟨⟨μ, C⟩, l⟩ := s
      exact ⟨C.fz _ _ (l.f _ _ q), RepL.le l ds r⟩⟩
theorem keepT {K : PySem.W.Frag} {G : Gi} {H : Hp} {w : Wd} {μ : Mu} {ds : List D} {v : V} (C : Cok K G w H μ) (r : RepM K G m w H (.tup ds) v) : ∃ a vs, v = .ref a ∧ vs.length = ds.length ∧ ∀ H' w', Kp K G m H w H' w' → H' a = some (.tup vs) ∧ RepL K G w' ds vs := by
  have r' : Rep K G w (.tup ds) v := by
    cases m with
    | true => exact r
    | false => exact r
  clear r
  obtain ⟨a, vs, e, q, r⟩ := r'
  refine ⟨a, vs, e, r.length, fun H' w' s => ?_⟩
  cases m with
  | true =>
    obtain ⟨z1, z2⟩ := Fb.of (C.fzb _ _ q)
    exact ⟨s.h _ _ z1 z2, RepL.le s.le ds r⟩
  | false =>
    obtain ⟨⟨μ, C⟩, l⟩ := s
    exact ⟨C.fz _ _ (l.f _ _ q), RepL.le l ds r⟩
theorem zw_lst {ga : Rho → Mu → R D} {tg : Expr} (ha : PE X a (zE G X B W m ga)) : PI X tg a (zW G X B W m fun ρ μ => (ga ρ μ).bind fun x μ => .opt (listD x) μ) := by
  refine PI.imp (pi_list ha) fun σ H Q ⟨w, ρ, μ, Co, So, P⟩ => ?_
  refine ⟨w, ρ, μ, Co, So, P.bind fun x μ1 _ P1 v H1 w1 s1 C1 r1 => ?_⟩
  cases x with
  | lst ds =>
    obtain ⟨q, vs, rfl, hl, kk⟩ := keepL r1
    obtain ⟨k1, k2⟩ := kk H1 w1 (Kp.refl C1)
    refine ⟨q, rfl, ⟨vs, SqL.of k1⟩, P1 _ H1 w1 s1 C1 ⟨fun i H w h hi => ?_, fun i H w μ x H' h Co y d e => ?_, fun H w h => ?_⟩⟩
    · obtain ⟨z1, z2⟩ := kk H w h
      exact ⟨vs, vs[i]'(by omega), SqL.of z1, by simp [hl, hi]⟩
    · obtain ⟨z1, z2⟩ := kk H w h
      obtain ⟨rfl, y⟩ := y
      obtain ⟨u, hu, ru⟩ := z2.get e
      have := y vs (SqL.of z1)
      rw [hu] at this
      cases this
      exact ⟨w, .refl _ _, Co, ru⟩
    · obtain ⟨z1, z2⟩ := kk H w h
      exact ⟨vs, SqL.of z1, by omega⟩
  | _ => exact P1.elim
theorem zw_tup {ga : Rho → Mu → R D} {tg : Expr} (ha : PE X a (zE G X B W m ga)) : PI X tg a (zW G X B W m fun ρ μ => (ga ρ μ).bind fun x μ => .opt (tupD x) μ) := by
  refine PI.imp (pi_tup ha) fun σ H Q ⟨w, ρ, μ, Co, So, P⟩ => ?_
  refine ⟨w, ρ, μ, Co, So, P.bind fun x μ1 _ P1 v H1 w1 s1 C1 r1 => ?_⟩
  cases x with
  | tup ds =>
    obtain ⟨q, vs, rfl, hl, kk⟩ := keepT C1 r1
    obtain ⟨k1, k2⟩ := kk H1 w1 (Kp.refl C1)
    refine ⟨q, rfl, ⟨vs, SqT.of k1⟩, P1 _ H1 w1 s1 C1 ⟨fun i H w h hi => ?_, fun i H w μ x H' h Co y d e => ?_, fun H w h => ?_⟩⟩
    · obtain ⟨z1, z2⟩ := kk H w h
      exact ⟨vs, vs[i]'(by omega), SqT.of z1, by simp [hl, hi]⟩
    · obtain ⟨z1, z2⟩ := kk H w h
      obtain ⟨rfl, y⟩ := y
      obtain ⟨u, hu, ru⟩ := z2.get e
      have := y vs (SqT.of z1)
      rw [hu] at this
      cases this
      exact ⟨w, .refl _ _, Co, ru⟩
    · obtain ⟨z1, z2⟩ := kk H w h
      exact ⟨vs, SqT.of z1, by omega⟩
  | _ => exact P1.elim
theorem zw_str {ga : Rho → Mu → R D} {tg : Expr} (ha : PE X a (zE G X B W m ga)) : PI X tg a (zW G X B W m fun ρ μ => (ga ρ μ).bind fun x μ => .opt (signD x) μ) := by
  refine PI.imp (pi_str ha) fun σ H Q ⟨w, ρ, μ, Co, So, P⟩ => ?_
  refine ⟨w, ρ, μ, Co, So, P.bind fun x μ1 _ P1 v H1 w1 s1 C1 r1 => ?_⟩
  cases x with
  | str z =>
    have rv : v = .str z := by cases m <;> exact r1
    subst rv
    have hl : (strItems z).length = z.cps.size := by unfold strItems; rw [List.length_map]; exact Array.length_toList
    refine ⟨z, rfl, P1 _ H1 w1 s1 C1 ⟨fun i H w h hi => ?_, fun i H w μ x H' h Co y d e => ?_, fun H w h => ?_⟩⟩
    · rw [hl] at hi; exact hi
    · obtain ⟨rfl, ch, hc, rfl⟩ := y
      refine ⟨w, .refl _ _, Co, ?_⟩
      unfold strItems at e
      rw [List.getElem?_map, Array.getElem?_toList, hc] at e
      cases e
      rfl
    · rw [hl]; exact Nat.le_refl _
  | _ => exact P1.elim
theorem rng_items {lo : Int} {k i : Nat} {d : D} (e : (rngItems lo k)[i]? = some d) : i < k ∧ d = .int (lo + (i : Int)) := by
  unfold rngItems at e
  rw [List.getElem?_map] at e
  by_cases hi : i < k
  · rw [List.getElem?_range hi] at e
    exact ⟨hi, (Option.some.inj e).symm⟩
  · rw [List.getElem?_eq_none (by simp; omega)] at e
    cases e
theorem rng_walk {K : PySem.W.Frag} {G : Gi} {P : Hp → Wd → Prop} (lo : Int) (k : Nat) : Walk K G (Itr lo k) P (rngItems lo k) := by
  have hl : (rngItems lo k).length = k := by unfold rngItems; simp
  refine ⟨fun i H w h hi => ?_, fun i H w μ x H' h Co y d e => ?_, fun H w h => ?_⟩
  · rw [hl] at hi; exact hi
  · obtain ⟨rfl, rfl⟩ := y
    obtain ⟨h1, rfl⟩ := rng_items e
    exact ⟨w, .refl _ _, Co, rfl⟩
  · rw [hl]; exact Nat.le_refl _
theorem rngOk_iff {i : Int} (h : rngOk i = true) : -(2 ^ 62) ≤ i ∧ i < 2 ^ 62 := by
  have := rngOk_ble.mp h
  omega
theorem ints_of {K : PySem.W.Frag} {G : Gi} {w : Wd} {H : Hp} {i : Int} {v : V} (r : RepM K G true w H (.int i) v) : v = .int i := r
theorem zw_rng1 (C : Cxt G Φ n X S W) {x : Str} {tg : Expr} {ga : Rho → Mu → R D} (h1 : x = "range") (h2 : freeB G S x = true) (ha : PE X a (zE G X B W true ga)) (hd : hdOk a = true) :
    PI X tg (.Call (.Name x p) [a] [] pos) (zW G X B W m fun ρ μ => (ga ρ μ).bind fun x μ => .opt (rngD [x]) μ) := by
  obtain ⟨g1, g2, g3, g4⟩ := free_ok C h2
  subst h1
  refine PI.imp (pi_range1 g1 g2 (pa_cons ha pa_nil (star_ok hd)) (star_ok hd)) fun σ H Q ⟨w, ρ, μ, Co, So, P⟩ => ?_
  refine ⟨w, ρ, μ, Co, So, P.bind fun x μ1 _ P1 v H1 w1 s1 C1 r1 => ?_⟩
  cases x with
  | int j =>
    cases ints_of r1
    have P2 : PostW X.K G.toGi m H w Q (WE W σ) (.opt (ite? (rngOk j) (rngItems 0 j.toNat)) μ1) := P1
    cases hj : rngOk j with
    | false => rw [hj] at P2; exact P2.elim
    | true =>
      rw [hj] at P2
      obtain ⟨k1, k2⟩ := rngOk_iff hj
      exact ⟨j, rfl, k1, k2, P2 _ H1 w1 s1 C1 (rng_walk 0 j.toNat)⟩
  | _ => exact P1.elim
theorem zw_rng2 (C : Cxt G Φ n X S W) {x : Str} {tg : Expr} {ga gb : Rho → Mu → R D} (h1 : x = "range") (h2 : freeB G S x = true) (ha : PE X a (zE G X B W true ga)) (hb : PE X b (zE G X B W true gb)) (hd : hdOk a = true) (hd2 : hdOk b = true) :
    PI X tg (.Call (.Name x p) [a, b] [] pos) (zW G X B W m fun ρ μ => (ga ρ μ).bind fun x μ => (gb ρ μ).bind fun y μ => .opt (rngD [x, y]) μ) := by
  obtain ⟨g1, g2, g3, g4⟩ := free_ok C h2
  subst h1
  refine PI.imp (pi_range2 g1 g2 (pa_cons ha (pa_cons hb pa_nil (star_ok hd2)) (star_ok hd)) (by rw [star_ok hd, star_ok hd2]; rfl) (star_ok hd2)) fun σ H Q ⟨w, ρ, μ, Co, So, P⟩ => ?_
  refine ⟨w, ρ, μ, Co, So, P.bind fun x μ1 _ P1 v H1 w1 s1 C1 r1 => ⟨w1, ρ, μ1, C1, So.step s1, (PostW.shift s1 P1).bind fun y μ2 _ P2 u H2 w2 s2 C2 r2 => ?_⟩⟩
  cases x with
  | int i =>
    cases y with
    | int j =>
      cases ints_of r1
      cases ints_of r2
      have P3 : PostW X.K G.toGi m H1 w1 Q (WE W σ) (.opt (ite? (rngOk i && rngOk j) (rngItems i (j - i).toNat)) μ2) := P2
      cases hj : (rngOk i && rngOk j) with
      | false => rw [hj] at P3; exact P3.elim
      | true =>
        rw [hj] at P3
        rw [Bool.and_eq_true] at hj
        obtain ⟨k1, k2⟩ := rngOk_iff hj.1
        obtain ⟨k3, k4⟩ := rngOk_iff hj.2
        exact ⟨i, j, rfl, ⟨k1, k2, k3, k4⟩, P3 _ H2 w2 s2 C2 (rng_walk i (j - i).toNat)⟩
    | _ => exact P2.elim
  | _ => exact P2.elim
theorem dwn_items {hi : Int} {k i : Nat} {d : D} (e : (dwnItems hi k)[i]? = some d) : i < k ∧ d = .int (hi + (i : Int) * -1) := by
  unfold dwnItems at e
  rw [List.getElem?_map] at e
  by_cases hi : i < k
  · rw [List.getElem?_range hi] at e
    exact ⟨hi, (Option.some.inj e).symm⟩
  · rw [List.getElem?_eq_none (by simp; omega)] at e
    cases e
theorem dwn_walk {K : PySem.W.Frag} {G : Gi} {P : Hp → Wd → Prop} (hi : Int) (k : Nat) : Walk K G (Itc hi (-1) k) P (dwnItems hi k) := by
  have hl : (dwnItems hi k).length = k := by unfold dwnItems; simp
  refine ⟨fun i H w h hi => ?_, fun i H w μ x H' h Co y d e => ?_, fun H w h => ?_⟩
  · rw [hl] at hi; exact hi
  · obtain ⟨rfl, rfl⟩ := y
    obtain ⟨h1, rfl⟩ := dwn_items e
    exact ⟨w, .refl _ _, Co, rfl⟩
  · rw [hl]; exact Nat.le_refl _
theorem zw_rng3 (C : Cxt G Φ n X S W) {x : Str} {tg c : Expr} {ga gb gc : Rho → Mu → R D} (h1 : x = "range") (h2 : freeB G S x = true) (ha : PE X a (zE G X B W true ga)) (hb : PE X b (zE G X B W true gb)) (hc : PE X c (zE G X B W true gc)) (hd : hdOk a = true) (hd2 : hdOk b = true) (hd3 : hdOk c = true) :
    PI X tg (.Call (.Name x p) [a, b, c] [] pos) (zW G X B W m fun ρ μ => (ga ρ μ).bind fun x μ => (gb ρ μ).bind fun y μ => (gc ρ μ).bind fun z μ => .opt (rngD [x, y, z]) μ) := by
  obtain ⟨g1, g2, g3, g4⟩ := free_ok C h2
  subst h1
  refine PI.imp (pi_range3 g1 g2 (pa_cons ha (pa_cons hb (pa_cons hc pa_nil (star_ok hd3)) (star_ok hd2)) (star_ok hd)) (star_ok hd) (by rw [star_ok hd2, star_ok hd3]; rfl)) fun σ H Q ⟨w, ρ, μ, Co, So, P⟩ => ?_
  refine ⟨w, ρ, μ, Co, So, P.bind fun x μ1 _ P1 v H1 w1 s1 C1 r1 => ⟨w1, ρ, μ1, C1, So.step s1, (PostW.shift s1 P1).bind fun y μ2 _ P2 u H2 w2 s2 C2 r2 => ⟨w2, ρ, μ2, C2, (So.step s1).step s2, (PostW.shift s2 P2).bind fun z μ3 _ P3 u3 H3 w3 s3 C3 r3 => ?_⟩⟩⟩
  cases x with
  | int i =>
    cases y with
    | int j =>
      cases z with
      | int c =>
        cases ints_of r1
        cases ints_of r2
        cases ints_of r3
        have P4 : PostW X.K G.toGi m H2 w2 Q (WE W σ) (.opt (ite? (decide (c = -1) && rngOk i && rngOk j) (dwnItems i (i - j).toNat)) μ3) := P3
        cases hj : (decide (c = -1) && rngOk i && rngOk j) with
        | false => rw [hj] at P4; exact P4.elim
        | true =>
          rw [hj] at P4
          rw [Bool.and_eq_true, Bool.and_eq_true, decide_eq_true_eq] at hj
          obtain ⟨⟨rfl, k⟩, k'⟩ := hj
          obtain ⟨k1, k2⟩ := rngOk_iff k
          obtain ⟨k3, k4⟩ := rngOk_iff k'
          exact ⟨i, j, -1, (i - j).toNat, rfl, RgC.neg k1 k2 k3 k4, P4 _ H3 w3 s3 C3 (dwn_walk i (i - j).toNat)⟩
      | _ => exact P3.elim
    | _ => exact P3.elim
  | _ => exact P3.elim
theorem enu_items : ∀ {ds : List D} {k i : Nat} {d : D}, (enuItems k ds)[i]? = some d → ∃ x, ds[i]? = some x ∧ d = .tup [.int ((k + i : Nat) : Int), x]
  | [], k, i, d, e => by simp [enuItems] at e
  | x :: ds, k, 0, d, e => by
    unfold enuItems at e
    exact ⟨x, rfl, by simpa using e.symm⟩
  | x :: ds, k, i + 1, d, e => by
    unfold enuItems at e
    obtain ⟨y, h1, h2⟩ := enu_items (ds := ds) (k := k + 1) (i := i) (by simpa using e)
    exact ⟨y, by simpa using h1, by rw [h2]; congr 3; omega⟩
theorem enu_length : ∀ (ds : List D) (k : Nat), (enuItems k ds).length = ds.length
  | [], _ => rfl
  | _ :: ds, k => by unfold enuItems; rw [List.length_cons, List.length_cons, enu_length ds]
theorem zw_enu (C : Cxt G Φ n X S W) {x : Str} {tg : Expr} {ga : Rho → Mu → R D} (h1 : x = "enumerate") (h2 : freeB G S x = true) (h3 : isTup tg = true) (ha : PE X a (zE G X B W m ga)) (hd : hdOk a = true) :
    PI X tg (.Call (.Name x p) [a] [] pos) (zW G X B W m fun ρ μ => (ga ρ μ).bind fun x μ => .opt ((listD x).map (enuItems 0)) μ) := by
  obtain ⟨g1, g2, g3, g4⟩ := free_ok C h2
  subst h1
  cases tg with
  | Tuple elts kk tp =>
    refine PI.imp (pi_enum g1 g2 (pa_cons ha pa_nil (star_ok hd)) (star_ok hd)) fun σ H Q ⟨w, ρ, μ, Co, So, P⟩ => ?_
    refine ⟨w, ρ, μ, Co, So, P.bind fun x μ1 _ P1 v H1 w1 s1 C1 r1 => ?_⟩
    cases x with
    | lst ds =>
      obtain ⟨q, vs, rfl, hl, kk⟩ := keepL r1
      obtain ⟨k1, k2⟩ := kk H1 w1 (Kp.refl C1)
      refine ⟨q, vs, rfl, SqL.of k1, P1 _ H1 w1 s1 C1 ⟨fun i H w h hi => ?_, fun i H w μ x H' h Co y d e => ?_, fun H w h => ?_⟩⟩
      · obtain ⟨z1, z2⟩ := kk H w h
        rw [enu_length] at hi
        exact ⟨vs, vs[i]'(by omega), SqL.of z1, by simp [hl, hi]⟩
      · obtain ⟨z1, z2⟩ := kk H w h
        obtain ⟨T, u', rfl, hT, rfl, y⟩ := y
        obtain ⟨dx, e1, rfl⟩ := enu_items e
        obtain ⟨u, hu, ru⟩ := z2.get e1
        have := y vs (SqL.of z1)
        rw [hu] at this
        cases this
        refine ⟨_, Step.lay Co hT, Cok.lay Co hT, Rep.layT Co hT ⟨_, _, rfl, ?_, _, _, rfl, ru, rfl⟩⟩
        show V.int (i : Nat) = V.int ((0 + i : Nat) : Int)
        rw [Nat.zero_add]
      · obtain ⟨z1, z2⟩ := kk H w h
        exact ⟨vs, SqL.of z1, by rw [enu_length]; omega⟩
    | _ => exact P1.elim
  | _ => cases h3
theorem zip_items : ∀ {xs ys : List D} {i : Nat} {d : D}, (zipItems xs ys)[i]? = some d → ∃ x y, xs[i]? = some x ∧ ys[i]? = some y ∧ d = .tup [x, y]
  | [], ys, i, d, e => by simp [zipItems] at e
  | x :: xs, [], i, d, e => by simp [zipItems] at e
  | x :: xs, y :: ys, 0, d, e => by
    unfold zipItems at e
    exact ⟨x, y, rfl, rfl, by simpa using e.symm⟩
  | x :: xs, y :: ys, i + 1, d, e => by
    unfold zipItems at e
    obtain ⟨a, b, h1, h2, h3⟩ := zip_items (xs := xs) (ys := ys) (i := i) (by simpa using e)
    exact ⟨a, b, by simpa using h1, by simpa using h2, h3⟩
theorem zip_length : ∀ (xs ys : List D), (zipItems xs ys).length = min xs.length ys.length
  | [], ys => by simp [zipItems]
  | x :: xs, [] => by simp [zipItems]
  | x :: xs, y :: ys => by unfold zipItems; rw [List.length_cons, zip_length xs ys, List.length_cons, List.length_cons]; omega
theorem zw_zip (C : Cxt G Φ n X S W) {x : Str} {tg : Expr} {ga gb : Rho → Mu → R D} (h1 : x = "zip") (h2 : freeB G S x = true) (h3 : isTup tg = true) (ha : PE X a (zE G X B W false ga)) (hb : PE X b (zE G X B W false gb)) (hd : hdOk a = true) (hd2 : hdOk b = true) :
    PI X tg (.Call (.Name x p) [a, b] [] pos) (zW G X B W m fun ρ μ => (ga ρ μ).bind fun x μ => (gb ρ μ).bind fun y μ => .opt ((listD x).bind fun xs => (listD y).map fun ys => zipItems xs ys) μ) := by
  obtain ⟨g1, g2, g3, g4⟩ := free_ok C h2
  subst h1
  cases tg with
  | Tuple elts kk tp =>
    refine PI.imp (pi_zip g1 g2 (pa_cons ha (pa_cons hb pa_nil (star_ok hd2)) (star_ok hd)) (by rw [star_ok hd, star_ok hd2]) (by rw [star_ok hd2]; rfl)) fun σ H Q ⟨w, ρ, μ, Co, So, P⟩ => ?_
    refine ⟨w, ρ, μ, Co, So, P.bind fun x μ1 _ P1 v H1 w1 s1 C1 r1 => ⟨w1, ρ, μ1, C1, So.step s1, (PostW.shift s1 P1).bind fun y μ2 _ P2 u H2 w2 s2 C2 r2 => ?_⟩⟩
    cases x with
    | lst ds =>
      cases y with
      | lst es =>
        obtain ⟨q, vs, rfl, hl, kk1⟩ := keepL (m := false) r1
        obtain ⟨q', vs', rfl, hl', kk2⟩ := keepL (m := false) r2
        have lift : ∀ {H w}, Kp X.K G.toGi m H2 w2 H w → ∀ {μ}, Cok X.K G.toGi w H μ → Kp X.K G.toGi false H1 w1 H w ∧ Kp X.K G.toGi false H2 w2 H w := fun {H w} h {μ} Co => by
          cases m with
          | true => exact ⟨⟨⟨μ, Co⟩, s2.le.trans h.le⟩, ⟨μ, Co⟩, h.le⟩
          | false => exact ⟨⟨⟨μ, Co⟩, s2.le.trans h.2⟩, ⟨μ, Co⟩, h.2⟩
        have both : ∀ {H w}, Kp X.K G.toGi m H2 w2 H w → H q = some (.lst vs) ∧ H q' = some (.lst vs') := fun {H w} h => by
          cases m with
          | true =>
            have z1 := (kk1 H2 w2 ⟨⟨μ2, C2⟩, s2.le⟩).1
            have z2 := (kk2 H2 w2 ⟨⟨μ2, C2⟩, .refl _⟩).1
            obtain ⟨a1, b1, e1, f1, _⟩ := r1
            cases e1
            obtain ⟨a2, b2, e2, f2, _⟩ := r2
            cases e2
            have n1 : q ∉ w2.α := fun z => by
              have := C2.fa q z
              rw [s2.le.f _ _ f1] at this
              cases this
            have n2 : q' ∉ w2.α := fun z => by
              have := C2.fa q' z
              rw [f2] at this
              cases this
            exact ⟨h.h _ _ z1 n1, h.h _ _ z2 n2⟩
          | false =>
            obtain ⟨⟨μ, Co⟩, l⟩ := h
            exact ⟨(kk1 H w ⟨⟨μ, Co⟩, s2.le.trans l⟩).1, (kk2 H w ⟨⟨μ, Co⟩, l⟩).1⟩
        obtain ⟨k1, k2⟩ := both (Kp.refl C2)
        refine ⟨q, q', vs, vs', rfl, SqL.of k1, SqL.of k2, P2 _ H2 w2 s2 C2 ⟨fun i H w h hi => ?_, fun i H w μ x H' h Co y d e => ?_, fun H w h => ?_⟩⟩
        · obtain ⟨z1, z2⟩ := both h
          rw [zip_length] at hi
          exact ⟨vs, vs', vs[i]'(by omega), vs'[i]'(by omega), SqL.of z1, SqL.of z2, by simp, by simp⟩
        · obtain ⟨z1, z2⟩ := both h
          obtain ⟨l1, l2⟩ := lift h Co
          have ra := (kk1 H w l1).2
          have rb := (kk2 H w l2).2
          obtain ⟨T, u1, u2, rfl, hT, rfl, y1, y2⟩ := y
          obtain ⟨dx, dy, e1, e2, rfl⟩ := zip_items e
          obtain ⟨v1, hv1, rv1⟩ := ra.get e1
          obtain ⟨v2, hv2, rv2⟩ := rb.get e2
          have g1 := y1 vs (SqL.of z1)
          have g2 := y2 vs' (SqL.of z2)
          rw [hv1] at g1
          rw [hv2] at g2
          cases g1
          cases g2
          exact ⟨_, Step.lay Co hT, Cok.lay Co hT, Rep.layT Co hT ⟨_, _, rfl, rv1, _, _, rfl, rv2, rfl⟩⟩
        · obtain ⟨z1, z2⟩ := both h
          exact ⟨vs, vs', SqL.of z1, SqL.of z2, by rw [zip_length]; omega⟩
      | _ => exact P2.elim
    | _ => exact P2.elim
  | _ => cases h3
/-! ### comprehensions -/
theorem Step.own {H H1 : Hp} {w w1 : Wd} {D : Addr} {o : HO} (s : Step H w H1 w1) (hD : H D = Option.none) : Step H w (upd H1 D o) w1 :=
  ⟨s.le, fun b u e nb => by rw [upd_ne (ne_of_none e hD)]; exact s.h b u e nb, fun b u e => by rw [upd_ne (ne_of_none e hD)]; exact s.t b u e, s.nf, s.na⟩
theorem Cok.own {K : PySem.W.Frag} {G : Gi} {H : Hp} {w : Wd} {μ : Mu} {D : Addr} {o : HO} (C : Cok K G w H μ) (na : D ∉ w.α) (nf : w.F D = none) : Cok K G w (upd H D o) μ :=
  ⟨fun b u e => by rw [upd_ne (fun z => by rw [z, nf] at e; cases e)]; exact C.fz b u e, C.len, C.nd, C.fa, fun n a c e1 e2 => (C.cel n a c e1 e2).step (.refl w) fun u e => by
    rw [upd_ne (fun z => na (by rw [← z]; exact List.mem_of_getElem? e1))]; exact e⟩
theorem ownOf_snd (S : SC) (ws : List Nat) : (ownOf S ws).map (·.2) = ws := by
  unfold ownOf
  rw [List.map_map]
  exact List.map_id ws
/-- what holds of a comprehension ahead of turn i -/
def LcI (K : PySem.W.Frag) (G : Gi) (H : Hp) (w : Wd) (H1 : Hp) (w1 : Wd) (Q : VK) (E : XK) (D : Addr) (go : List Z.D → List Z.D → Mu → R (List Z.D)) (xs : List Z.D) (i : Nat) (Hc : Hp) : Prop :=
  ∃ wc μc acc vs, Step H1 w1 Hc wc ∧ Cok K G wc Hc μc ∧ Hc D = some (.lst vs) ∧ RepL K G wc acc vs ∧ D ∉ wc.α ∧ wc.F D = none ∧ PostN K G H w Q E (go (xs.drop i) acc μc)
theorem lc_imp {ws : List Nat} {t : Tg} {gw : Rho → Mu → R (List D)} {gt : Rho → Mu → R Bool} {ge : Rho → Mu → R D} (hsl : t.slots.all ws.contains = true) {σ : L2.St} {H : Hp} {Q : VK}
    (h : zN G X B W (fun ρ μ => (gw ρ μ).bind fun xs μ => compGo t.put gt ge (wipeR ρ ws) xs [] μ) σ H Q) :
    tLc (zW G X B W true gw) (gZ X.K G.toGi B t) (tZt X.K G.toGi B (fun _ _ _ _ => False) gt) (tZ X.K G.toGi B (fun _ _ _ _ => False) false ge) ((ownOf S ws).map (·.2)) σ H Q := by
  obtain ⟨w, ρ, μ, Co, So, P⟩ := h
  rw [ownOf_snd]
  refine ⟨w, ρ, μ, Co, So, P.bind fun xs μ1 _ P1 J H1 w1 s1 C1 wk D hD => ?_⟩
  have nD : H D = none := s1.none hD
  have naD : D ∉ w1.α := fun h => by
    obtain ⟨o, e⟩ := C1.there h
    rw [hD] at e; cases e
  have nfD : w1.F D = none := by
    cases e : w1.F D with
    | none => rfl
    | some o =>
      have := C1.fz D o e
      rw [hD] at this
      cases this
  refine ⟨fun i m Hc => m = xs.length - i ∧ i ≤ xs.length ∧ LcI X.K G.toGi H w H1 w1 Q (WE W σ) D (compGo t.put gt ge (wipeR ρ ws)) xs i Hc, ⟨xs.length, by simp, Nat.zero_le _, w1, μ1, [], [], Step.bare hD, Cok.bare C1 hD, upd_same, rfl, naD, nfD, P1⟩, ?_⟩
  rintro i m Hc ⟨rfl, hi, wc, μc, acc, vs, sc, Cc, hDc, rc, nac, nfc, Pc⟩
  by_cases hlt : i < xs.length
  · refine .inr ⟨wk.go i Hc wc sc hlt, LcI X.K G.toGi H w H1 w1 Q (WE W σ) D (compGo t.put gt ge (wipeR ρ ws)) xs (i + 1), fun H' p' => ⟨xs.length - (i + 1), by omega, rfl, hlt, p'⟩, fun x H' y => ?_⟩
    obtain ⟨w', s', C', r'⟩ := wk.yl i Hc wc μc x H' sc Cc y xs[i] (List.getElem?_eq_getElem hlt)
    rw [List.drop_eq_getElem_cons hlt] at Pc
    have Pc' : PostN X.K G.toGi H w Q (WE W σ) (match t.put xs[i] (wipeR ρ ws) with
      | none => .bad
      | some ρ1 => (gt ρ1 μc).noex.bind fun b μ1 => match b with
        | true => (ge ρ1 μ1).noex.bind fun d μ2 => if fits (acc.length + 1) then compGo t.put gt ge (wipeR ρ ws) (xs.drop (i + 1)) (acc ++ [d]) μ2 else .bad
        | false => compGo t.put gt ge (wipeR ρ ws) (xs.drop (i + 1)) acc μ1) := Pc
    cases ep : t.put xs[i] (wipeR ρ ws) with
    | none => rw [ep] at Pc'; exact Pc'.elim
    | some ρ1 =>
      rw [ep] at Pc'
      have Pd : PostN X.K G.toGi H w Q (WE W σ) ((gt ρ1 μc).noex.bind fun b μ1 => match b with
        | true => (ge ρ1 μ1).noex.bind fun d μ2 => if fits (acc.length + 1) then compGo t.put gt ge (wipeR ρ ws) (xs.drop (i + 1)) (acc ++ [d]) μ2 else .bad
        | false => compGo t.put gt ge (wipeR ρ ws) (xs.drop (i + 1)) acc μ1) := Pc'
      have So' : Sok X.K G.toGi B w' H' (L2.wipe σ ws) (wipeR ρ ws) := ((((So.step s1).step sc).step s').wipe ws)
      refine ⟨w', wipeR ρ ws, μc, xs[i], ρ1, C', So', r', ep, fun σ' So1 si => ⟨(si ws fun j hj => List.contains_iff_mem.mp (List.all_eq_true.mp hsl j hj)).trans wipe_wipe, w', ρ1, μc, C', So1, ?_⟩⟩
      cases et : gt ρ1 μc with
      | ex c a μ => rw [et] at Pd; exact Pd.elim
      | bad => rw [et] at Pd; exact Pd.elim
      | ok k μ2 =>
        rw [et] at Pd
        intro H3 w3 s3 C3
        have sc3 : Step Hc wc H3 w3 := s'.trans s3
        have hD3 : H3 D = some (.lst vs) := sc3.h _ _ hDc nac
        have na3 : D ∉ w3.α := fun z => nac (sc3.na _ _ hDc z)
        have nf3 : w3.F D = none := by rw [sc3.nf _ _ hDc]; exact nfc
        have r3 : RepL X.K G.toGi w3 acc vs := RepL.le sc3.le acc rc
        cases k with
        | false =>
          rw [if_neg (by simp)]
          exact ⟨w3, μ2, acc, vs, sc.trans sc3, C3, hD3, r3, na3, nf3, Pd⟩
        | true =>
          rw [if_pos rfl]
          have Pe : PostN X.K G.toGi H w Q (WE W σ) ((ge ρ1 μ2).noex.bind fun d μ2 => if fits (acc.length + 1) then compGo t.put gt ge (wipeR ρ ws) (xs.drop (i + 1)) (acc ++ [d]) μ2 else .bad) := Pd
          refine ⟨w3, ρ1, μ2, C3, So1.step s3, ?_⟩
          cases ee : ge ρ1 μ2 with
          | ex c a μ => rw [ee] at Pe; exact Pe.elim
          | bad => rw [ee] at Pe; exact Pe.elim
          | ok d2 μ3 =>
            rw [ee] at Pe
            have Pf : PostN X.K G.toGi H w Q (WE W σ) (if fits (acc.length + 1) then compGo t.put gt ge (wipeR ρ ws) (xs.drop (i + 1)) (acc ++ [d2]) μ3 else .bad) := Pe
            intro v H4 w4 s4 C4 r4
            cases hf : fits (acc.length + 1) with
            | false => rw [hf] at Pf; exact Pf.elim
            | true =>
              rw [hf, if_pos rfl] at Pf
              have hD4 : H4 D = some (.lst vs) := s4.h _ _ hD3 na3
              have na4 : D ∉ w4.α := fun z => na3 (s4.na _ _ hD3 z)
              have nf4 : w4.F D = none := by rw [s4.nf _ _ hD3]; exact nf3
              have hle := fits_le hf
              exact ⟨vs, hD4, by rw [rc.length]; omega, w4, μ3, acc ++ [d2], vs ++ [v], ((sc.trans sc3).trans s4).own hD, C4.own na4 nf4, upd_same, (RepL.le s4.le acc r3).append ⟨v, [], rfl, r4, rfl⟩, na4, nf4, Pf⟩
  · have e : i = xs.length := by omega
    subst e
    rw [List.drop_length] at Pc
    exact .inl ⟨wk.st Hc wc sc, Pc D Hc wc (s1.trans sc) Cc ⟨⟨vs, hDc, rc⟩, nD, nac, nfc⟩⟩
theorem zn_cmp (C : Cxt G Φ n X S W) {ws : List Nat} {t : Tg} {tg it elt : Expr} {ifs : List Expr} {scope : Scope} {gw : Rho → Mu → R (List D)} {gt : Rho → Mu → R Bool} {ge : Rho → Mu → R D} (hbc : blkC S.N S.sc scope (ownOf S ws) = true) (hsl : t.slots.all ws.contains = true)
    (hw : PI X tg it (zW G X B W true gw)) (hs : hdOk it = true)
    (hg : ∀ (s : Shared) (H : Hp) (C : Addr) (cl : List (Str × Addr)) (fp : List Addr), PG (X.blk s H scope (compEnvC scope cl C X.env) fp) tg (gZ X.K G.toGi B t))
    (ht : ∀ (s : Shared) (H : Hp) (C : Addr) (cl : List (Str × Addr)) (fp : List Addr), PTs (X.blk s H scope (compEnvC scope cl C X.env) fp) ifs (tZt X.K G.toGi B (fun _ _ _ _ => False) gt))
    (he : ∀ (s : Shared) (H : Hp) (C : Addr) (cl : List (Str × Addr)) (fp : List Addr), PE (X.blk s H scope (compEnvC scope cl C X.env) fp) elt (tZ X.K G.toGi B (fun _ _ _ _ => False) false ge)) :
    PE X (.ListComp elt [⟨tg, it, ifs, 0⟩] scope pos) (zN G X B W fun ρ μ => (gw ρ μ).bind fun xs μ => compGo t.put gt ge (wipeR ρ ws) xs [] μ) :=
  PE.imp (pe_lc C.calm C.nd hw (blkOk_by (own := ownOf S ws) (by rw [C.N, C.sc]; exact hbc)) hg ht he (folded_ok hs)) fun _ _ _ h => lc_imp hsl h
/-- the context of a comprehension's block -/
theorem Cxt.blk (C : Cxt G Φ n X S W) (scope : Scope) (s : Shared) (H : Hp) (Ca : Addr) (cl : List (Str × Addr)) (fp : List Addr) : Cxt G Φ n (X.blk s H scope (compEnvC scope cl Ca X.env) fp) (inner S scope) (fun _ _ _ _ => False) where
  N := C.N
  nd := C.nd
  sc := by
    show relS scope X.env.scope = relS scope S.sc
    rw [C.sc]
  calm := C.calm
  room := C.room
  tk := L2.takes0
  st := fun x h => by
    unfold sto at h
    split at h
    · rename_i e
      refine .inr ?_
      show (relS scope X.env.scope).names.lookup x = _
      rw [C.sc]
      exact e
    · exact .inl (by simpa [inner] using h)
    · cases h
  fac := C.fac
  fns := C.fns
  ini := C.ini
end
end Z

/-! Z12: the machine does what the IR means: expressions. -/
namespace Z
open PySem PySem.Spec PyProof.Rows L2

section
variable {G : Gs} {Φ : Phi} {n : Nat}
theorem and3 {a b c : Bool} (h : (a && b && c) = true) : a = true ∧ b = true ∧ c = true := by
  cases a <;> cases b <;> cases c <;> first | exact ⟨rfl, rfl, rfl⟩ | cases h
theorem and2 {a b : Bool} (h : (a && b) = true) : a = true ∧ b = true := by
  cases a <;> cases b <;> first | exact ⟨rfl, rfl⟩ | cases h
theorem agW_hd {w : Wk} {S : SC} {x tg : Expr} (h : agW G w S x tg = true) : hdOk x = true := by
  cases w with
  | lst e => exact agE_hd (G := G) (e := e) (S := S) h
  | tup e => exact agE_hd (G := G) (e := e) (S := S) h
  | str e => exact agE_hd (G := G) (e := e) (S := S) h
  | rng es => cases x <;> first | rfl | cases h
  | enu e => cases x <;> first | rfl | cases h
  | zip a b => cases x <;> first | rfl | cases h
theorem denTs_one {o : BoolOp} {t : Te} {cs : List CI} : denTs cs Φ o (.cons t .nil) = fun ρ μ => denT cs Φ t ρ μ := by
  funext ρ μ
  show (denT cs Φ t ρ μ).bind _ = _
  cases denT cs Φ t ρ μ with
  | ok k μ1 => cases o <;> cases k <;> rfl
  | _ => rfl
theorem denTs_and {t : Te} {ts : Tes} {cs : List CI} : denTs cs Φ .And (.cons t ts) = fun ρ μ => (denT cs Φ t ρ μ).bind fun k μ => match k with
    | true => denTs cs Φ .And ts ρ μ
    | false => .ok false μ := by
  funext ρ μ
  show (denT cs Φ t ρ μ).bind _ = _
  cases denT cs Φ t ρ μ with
  | ok k μ1 => cases k <;> rfl
  | _ => rfl
theorem denTs_or {t : Te} {ts : Tes} {cs : List CI} : denTs cs Φ .Or (.cons t ts) = fun ρ μ => (denT cs Φ t ρ μ).bind fun k μ => match k with
    | true => .ok true μ
    | false => denTs cs Φ .Or ts ρ μ := by
  funext ρ μ
  show (denT cs Φ t ρ μ).bind _ = _
  cases denT cs Φ t ρ μ with
  | ok k μ1 => cases k <;> rfl
  | _ => rfl
theorem denCmpT {o : CmpOp} {a b : Ex} {cs : List CI} : denT cs Φ (.val (.cmp o a b)) = fun ρ μ => (denE cs Φ a true ρ μ).bind fun x μ => (denE cs Φ b true ρ μ).bind fun y μ => .opt (cmpD o μ x y) μ := by
  funext ρ μ
  show ((denE cs Φ a true ρ μ).bind fun x μ => (denE cs Φ b true ρ μ).bind fun y μ => R.opt ((cmpD o μ x y).map .bl) μ).bind (fun x μ => R.opt (truD μ x) μ) = _
  rw [R.bind_assoc]
  congr 1
  funext x μ1
  exact tru_bl (denE cs Φ b true ρ μ1) fun y μ => cmpD o μ x y
theorem denChnT {o q : CmpOp} {a b c : Ex} {cs : List CI} : denT cs Φ (.val (.chn o q a b c)) = fun ρ μ => (denE cs Φ a true ρ μ).bind fun x μ => (denE cs Φ b true ρ μ).bind fun y μ => match cmpD o μ x y with
      | some true => (denE cs Φ c true ρ μ).bind fun z μ => .opt (cmpD q μ y z) μ
      | some false => .ok false μ
      | none => .bad := by
  funext ρ μ
  show ((denE cs Φ a true ρ μ).bind fun x μ => (denE cs Φ b true ρ μ).bind fun y μ => match cmpD o μ x y with
    | some true => (denE cs Φ c true ρ μ).bind fun z μ => R.opt ((cmpD q μ y z).map .bl) μ
    | some false => .ok (.bl false) μ
    | none => .bad).bind (fun x μ => R.opt (truD μ x) μ) = _
  rw [R.bind_assoc]
  congr 1
  funext x μ1
  rw [R.bind_assoc]
  congr 1
  funext y μ2
  cases cmpD o μ2 x y with
  | none => rfl
  | some k =>
    cases k with
    | false => rfl
    | true => exact tru_bl (denE cs Φ c true ρ μ2) fun z μ => cmpD q μ y z
theorem cmp_inv {o : CmpOp} {a b : Ex} {S : SC} {x : Expr} (h : agE G (.cmp o a b) S x = true) : ∃ x1 y pos, x = .Compare x1 [o] [y] pos ∧ agE G a S x1 = true ∧ agE G b S y = true := by
  cases x with
  | Compare x ps ys pos =>
    match ps, ys, h with
    | [p], [y], h =>
      obtain ⟨h1, h2, h3⟩ := and3 (show (decide (o = p) && agE G a S x && agE G b S y) = true from h)
      have e : o = p := of_decide_eq_true h1
      subst e
      exact ⟨x, y, pos, rfl, h2, h3⟩
    | [], [], h => cases h
    | [], _ :: _, h => cases h
    | [_], [], h => cases h
    | [_], _ :: _ :: _, h => cases h
    | _ :: _ :: _, [], h => cases h
    | _ :: _ :: _, _ :: _, h => cases h
  | _ => cases h
theorem chn_inv {o q : CmpOp} {a b c : Ex} {S : SC} {x : Expr} (h : agE G (.chn o q a b c) S x = true) : ∃ x1 y z pos, x = .Compare x1 [o, q] [y, z] pos ∧ agE G a S x1 = true ∧ agE G b S y = true ∧ agE G c S z = true := by
  cases x with
  | Compare x ps ys pos =>
    match ps, ys, h with
    | [p, p'], [y, z], h =>
      obtain ⟨h1, h2, h3⟩ := and3 (show (decide (o = p) && decide (q = p') && agE G a S x && agE G b S y && agE G c S z) = true from h)
      obtain ⟨k1, k2, k3⟩ := and3 h1
      have e : o = p := of_decide_eq_true k1
      have e' : q = p' := of_decide_eq_true k2
      subst e e'
      exact ⟨x, y, z, pos, rfl, k3, h2, h3⟩
    | [], [], h => cases h
    | [], _ :: _, h => cases h
    | [_], [], h => cases h
    | [_], [_], h => cases h
    | [_], _ :: _ :: _, h => cases h
    | [_, _], [], h => cases h
    | [_, _], [_], h => cases h
    | [_, _], _ :: _ :: _ :: _, h => cases h
    | _ :: _ :: _ :: _, [], h => cases h
    | _ :: _ :: _ :: _, _ :: _, h => cases h
  | _ => cases h
theorem notCmp {e : Ex} {S : SC} {x : Expr} (hn : ∀ x ps ys pos, agE G e S (.Compare x ps ys pos) = true → False) (hp : ¬ plainT x = true) (h1 : (plainT x || isCmp x) = true) (h2 : agE G e S x = true) : False := by
  cases x with
  | Compare x ps ys pos => exact hn _ _ _ _ h2
  | UnaryOp o a p =>
    cases o with
    | Not => cases h1
    | _ => exact hp rfl
  | BoolOp _ _ _ => cases h1
  | IfExp _ _ _ _ => cases h1
  | _ => exact hp rfl
theorem zip_inv {a b : Ex} {S : SC} {x tg : Expr} (h : agW G (.zip a b) S x tg = true) : ∃ y p u v pos, x = .Call (.Name y p) [u, v] [] pos ∧ (y == ("zip" : Str) && freeB G S y && isTup tg && (agE G a S u && agE G b S v)) = true := by
  cases x with
  | Call g xs ks pos =>
    cases g with
    | Name y p =>
      cases xs with
      | nil => cases h
      | cons u xs =>
        cases xs with
        | nil => cases h
        | cons v xs =>
          cases xs with
          | cons _ _ => cases h
          | nil =>
            cases ks with
            | cons _ _ => cases h
            | nil => exact ⟨_, _, _, _, _, rfl, h⟩
    | _ => cases h
  | _ => cases h
theorem rev_inv {a : Ex} {S : SC} {x : Expr} (h : agE G (.rev a) S x = true) : ∃ y k p1 p2 p3 pos, x = .Subscript y (.Slice none none (some (.UnaryOp .USub (.Constant (.int 1) k p1) p2)) p3) pos ∧ agE G a S y = true := by
  cases x with
  | Subscript y i pos =>
    cases i with
    | Slice l u s p3 =>
      cases l with
      | some _ => cases h
      | none =>
        cases u with
        | some _ => cases h
        | none =>
          cases s with
          | none => cases h
          | some s =>
            cases s with
            | UnaryOp o z p2 =>
              cases o with
              | USub =>
                cases z with
                | Constant c k p1 =>
                  cases c with
                  | int j =>
                    obtain ⟨h1, h2⟩ := and2 (show (j == 1 && agE G a S y) = true from h)
                    have e : j = 1 := beq_iff_eq.mp h1
                    subst e
                    exact ⟨_, _, _, _, _, _, rfl, h2⟩
                  | _ => cases h
                | _ => cases h
              | _ => cases h
            | _ => cases h
    | _ => cases h
  | _ => cases h
theorem lrg_inv {es : Exs} {S : SC} {x : Expr} (h : agE G (.lrg es) S x = true) : ∃ y p z p2 xs pos pos', x = .Call (.Name y p) [.Call (.Name z p2) xs [] pos] [] pos' ∧ (y == ("list" : Str) && freeB G S y && (z == ("range" : Str) && freeB G S z) && (rng2B es && agEs G es S xs)) = true := by
  cases x with
  | Call g xs ks pos =>
    cases g with
    | Name y p =>
      cases xs with
      | nil => cases h
      | cons u xs =>
        cases xs with
        | cons w xs =>
          cases u with
          | Call g2 ys ks2 pos2 =>
            cases g2 with
            | Name z p2 =>
              cases ks2 with
              | cons _ _ => cases h
              | nil => cases h
            | _ => cases h
          | _ => cases h
        | nil =>
          cases u with
          | Call g2 ys ks2 pos2 =>
            cases g2 with
            | Name z p2 =>
              cases ks2 with
              | cons _ _ => cases h
              | nil =>
                cases ks with
                | cons _ _ => cases h
                | nil => exact ⟨_, _, _, _, _, _, _, rfl, h⟩
            | _ => cases h
          | _ => cases h
    | _ => cases h
  | _ => cases h
theorem is2_inv {t u : Ty} {e : Ex} {S : SC} {x : Expr} (h : agE G (.is2 t u e) S x = true) : ∃ y p z a q1 b q2 kk tp pos, x = .Call (.Name y p) [z, .Tuple [.Name a q1, .Name b q2] kk tp] [] pos ∧ (y == ("isinstance" : Str) && freeB G S y && (a == tyName t && freeB G S a) && (b == tyName u && freeB G S b && agE G e S z)) = true := by
  cases x with
  | Call g xs ks pos =>
    cases g with
    | Name y p =>
      cases xs with
      | nil => cases h
      | cons u xs =>
        cases xs with
        | nil => cases h
        | cons v xs =>
          cases v with
          | Tuple es kk tp =>
            cases es with
            | nil => cases h
            | cons e1 es =>
              cases e1 with
              | Name a q1 =>
                cases es with
                | nil => cases h
                | cons e2 es =>
                  cases e2 with
                  | Name b q2 =>
                    cases es with
                    | cons _ _ => cases h
                    | nil =>
                      cases xs with
                      | cons _ _ => cases h
                      | nil =>
                        cases ks with
                        | cons _ _ => cases h
                        | nil => exact ⟨_, _, _, _, _, _, _, _, _, _, rfl, h⟩
                  | _ => cases h
              | _ => cases h
          | _ => cases h
    | _ => cases h
  | _ => cases h
mutual
theorem sE (Ar : Arity G Φ) : ∀ (e : Ex) {X : Cx} {S : SC} {W : WX} (B : Ent) (m : Bool) {x : Expr}, Cxt G Φ n X S W → agE G e S x = true → PE X x (zE G X B W m (denE G.cs Φ e m))
  | .var i, X, S, W, B, m, x, C, h => by
    cases x with
    | Name x p => obtain ⟨h1, h2, h3⟩ := and3 h; exact z_var C h1 h2 h3
    | _ => cases h
  | .cst d, X, S, W, B, m, x, C, h => by
    cases x with
    | Constant k j p => exact z_cst h
    | _ => cases h
  | .gbl y d, X, S, W, B, m, x, C, h => by
    cases x with
    | Name x p =>
      have h' : (y == x && isGl S y && !(y == ("__debug__" : Str)) && conB G y d) = true := h
      obtain ⟨h1, h2⟩ := and2 h'
      obtain ⟨h3, h4, h5⟩ := and3 h1
      have e : y = x := beq_iff_eq.mp h3
      subst e
      exact z_gbl C h4 (by simpa using h5) h2
    | _ => cases h
  | .bin o a b, X, S, W, B, m, x, C, h => by
    cases x with
    | BinOp x p y pos =>
      obtain ⟨h1, h2, h3⟩ := and3 h
      have e : o = p := of_decide_eq_true h1
      subst e
      exact z_bin (sE Ar a B true C h2) (sE Ar b B true C h3)
    | _ => cases h
  | .neg a, X, S, W, B, m, x, C, h => by
    cases x with
    | UnaryOp o x pos =>
      cases o with
      | USub => exact z_neg (sE Ar a B true C h)
      | _ => cases h
    | _ => cases h
  | .not a, X, S, W, B, m, x, C, h => by
    cases x with
    | UnaryOp o x pos =>
      cases o with
      | Not => exact z_not (sE Ar a B true C h)
      | _ => cases h
    | _ => cases h
  | .bop o es, X, S, W, B, m, x, C, h => by
    cases x with
    | BoolOp p xs pos =>
      obtain ⟨h1, h2, h3⟩ := and3 h
      have e : o = p := of_decide_eq_true h1
      subst e
      exact sBop Ar o es B m C (by simpa using h2) h3
    | _ => cases h
  | .cmp o a b, X, S, W, B, m, x, C, h => by
    obtain ⟨x, y, pos, rfl, k1, k2⟩ := cmp_inv h
    exact z_cmp C (sE Ar a B true C k1) (sE Ar b B true C k2) (agE_hd k2)
  | .chn o q a b c, X, S, W, B, m, x, C, h => by
    obtain ⟨x, y, z, pos, rfl, k1, k2, k3⟩ := chn_inv h
    exact z_chn C (sE Ar a B true C k1) (sE Ar b B true C k2) (sE Ar c B true C k3) (agE_hd k2) (agE_hd k3)
  | .ite t a b, X, S, W, B, m, x, C, h => by
    cases x with
    | IfExp x y z pos =>
      obtain ⟨h1, h2, h3⟩ := and3 h
      exact z_ite (sT Ar t B C h1) (sE Ar a B m C h2) (sE Ar b B m C h3)
    | _ => cases h
  | .tup es, X, S, W, B, m, x, C, h => by
    cases x with
    | Tuple xs k pos => exact z_tup (sEs Ar es B false C h)
    | _ => cases h
  | .new nn, X, S, W, B, m, x, C, h => z_new (sN Ar nn B C h)
  | .cel nn, X, S, W, B, m, x, C, h => z_cel (sN Ar nn B C h)
  | .idx a i, X, S, W, B, m, x, C, h => by
    cases x with
    | Subscript x y pos =>
      have h' : (agE G a S x && agE G i S y && notSl y) = true := by
        cases y <;> exact h
      obtain ⟨h1, h2, h3⟩ := and3 h'
      exact z_idx (sE Ar a B true C h1) (sE Ar i B true C h2) h3
    | _ => cases h
  | .slc a lo hi, X, S, W, B, m, x, C, h => by
    cases x with
    | Subscript x y pos =>
      cases y with
      | Slice l hh st p =>
        cases st with
        | none =>
          obtain ⟨h1, h2, h3⟩ := and3 h
          exact z_slc (sE Ar a B true C h1) (sO Ar lo B C h2) (sO Ar hi B C h3)
        | some _ => cases h
      | _ => cases h
    | _ => cases h
  | .att a f, X, S, W, B, m, x, C, h => by
    cases x with
    | Attribute x nm pos =>
      obtain ⟨h1, h2, h3⟩ := and3 h
      exact z_att C (sE Ar a B true C h2) h1 h3
    | _ => cases h
  | .call f es, X, S, W, B, m, x, C, h => by
    cases x with
    | Call g xs ks pos =>
      cases g with
      | Name x p =>
        cases ks with
        | cons _ _ => cases h
        | nil =>
          obtain ⟨h1, h2⟩ := and2 (show (fnB G S f x && agEs G es S xs) = true from h)
          cases es with
          | nil =>
            cases xs with
            | nil => exact z_call0 C Ar h1
            | cons _ _ => cases h2
          | cons e es =>
            cases xs with
            | nil => cases h2
            | cons x xs =>
              obtain ⟨k1, k2⟩ := and2 (show (agE G e S x && agEs G es S xs) = true from h2)
              exact z_call C Ar h1 (sEs Ar (.cons e es) B false C h2) (agE_hd k1) (noStar k2)
      | _ => cases h
    | _ => cases h
  | .meth a mt es, X, S, W, B, m, x, C, h => by
    cases x with
    | Call g xs ks pos =>
      cases g with
      | Attribute x nm ap =>
        cases ks with
        | cons _ _ => cases h
        | nil =>
          have h' : (nmB G mt nm && agE G a S x && baseB x && ap.endLine == pos.line && decide (xs.length < 29) && agEs G es S xs) = true := h
          obtain ⟨h1, h2, h3⟩ := and3 h'
          obtain ⟨h4, h5⟩ := and2 h1
          obtain ⟨h6, h7, h8⟩ := and3 h4
          cases es with
          | nil =>
            cases xs with
            | nil => exact PE.imp (z_meth0 C Ar h6 (sE Ar a B false C h7) h8 h5) fun σ H Q z => z
            | cons _ _ => cases h3
          | cons e es =>
            cases xs with
            | nil => cases h3
            | cons y xs =>
              obtain ⟨k1, k2⟩ := and2 (show (agE G e S y && agEs G es S xs) = true from h3)
              exact z_meth C Ar h6 (sE Ar a B false C h7) h8 h5 (sEs Ar (.cons e es) B false C h3) (agE_hd k1) (noStar k2) (form_ok h3 (of_decide_eq_true h2))
      | _ => cases h
    | _ => cases h
  | .make c es, X, S, W, B, m, x, C, h => by
    cases x with
    | Call g xs ks pos =>
      cases g with
      | Name x p =>
        cases ks with
        | cons _ _ => cases h
        | nil =>
          obtain ⟨h1, h2⟩ := and2 (show (clsB G S c x && agEs G es S xs) = true from h)
          cases es with
          | nil =>
            cases xs with
            | nil => exact z_make0 C Ar h1
            | cons _ _ => cases h2
          | cons e es =>
            cases xs with
            | nil => cases h2
            | cons x xs =>
              obtain ⟨k1, k2⟩ := and2 (show (agE G e S x && agEs G es S xs) = true from h2)
              exact z_make C Ar h1 (sEs Ar (.cons e es) B false C h2) (agE_hd k1) (noStar k2)
      | _ => cases h
    | _ => cases h
  | .blt b es, X, S, W, B, m, x, C, h => by
    cases x with
    | Call g xs ks pos =>
      cases g with
      | Name x p =>
        cases ks with
        | cons _ _ => cases h
        | nil =>
          have h' : (x == biName b && freeB G S x && !es.isNil && agEs G es S (xs.take (biNum b)) && tailB G S b (xs.drop (biNum b))) = true := h
          obtain ⟨h1, h2, h3⟩ := and3 h'
          obtain ⟨h4, h5, h6⟩ := and3 h1
          have e1 : x = biName b := beq_iff_eq.mp h4
          cases es with
          | nil => cases h6
          | cons e es =>
            cases xs with
            | nil => cases b <;> cases h2
            | cons y ys =>
              have plain : ∀ (k : Nat), biNum b = k + 1 → biTail b = [] → (∀ zs, tailB G S b zs = true → zs = []) → PE X (.Call (.Name x p) (y :: ys) [] pos) (zE G X B W m (denE G.cs Φ (.blt b (.cons e es)) m)) := fun k ek et hz => by
                have e2 : (y :: ys).drop (biNum b) = [] := hz _ h3
                have e3 : (y :: ys).take (biNum b) = y :: ys := by
                  have := List.take_append_drop (biNum b) (y :: ys)
                  rw [e2, List.append_nil] at this
                  exact this
                rw [e3] at h2
                obtain ⟨k1, k2⟩ := and2 (show (agE G e S y && agEs G es S ys) = true from h2)
                exact z_blt C e1 h5 et (sEs Ar (.cons e es) B true C h2) (agE_hd k1) (noStar k2)
              have tl : ∀ zs, (match b with
                | .isi _ => true
                | _ => false) = false → tailB G S b zs = true → zs = [] := fun zs hb hz => by
                cases b <;> first
                  | (cases zs with
                    | nil => rfl
                    | cons _ _ => cases hz)
                  | cases hb
              cases b with
              | isi t =>
                cases ys with
                | nil => cases h3
                | cons z zs =>
                  cases zs with
                  | cons _ _ => cases z <;> cases h3
                  | nil =>
                    cases z with
                    | Name u q =>
                      obtain ⟨t1, t2⟩ := and2 (show (u == tyName t && freeB G S u) = true from h3)
                      have e4 : u = tyName t := beq_iff_eq.mp t1
                      subst e4
                      obtain ⟨k1, k2⟩ := and2 (show (agE G e S y && agEs G es S []) = true from h2)
                      cases es with
                      | nil => exact z_isi C e1 h5 t2 (sE Ar e B true C k1) (agE_hd k1)
                      | cons _ _ => cases k2
                    | _ => cases h3
              | max2 => exact plain 1 rfl rfl fun zs => tl zs rfl
              | min2 => exact plain 1 rfl rfl fun zs => tl zs rfl
              | _ => exact plain 0 rfl rfl fun zs => tl zs rfl
      | _ => cases h
    | _ => cases h
  | .bmt b a es, X, S, W, B, m, x, C, h => by
    cases x with
    | Call g xs ks pos =>
      cases g with
      | Attribute x nm ap =>
        cases ks with
        | cons _ _ => cases h
        | nil =>
          have h' : (bmB b es && nm == bmName b && agE G a S x && baseB x && ap.endLine == pos.line && decide (xs.length < 29) && agEs G es S xs) = true := h
          obtain ⟨h1, h2, h3⟩ := and3 h'
          obtain ⟨h4, h5⟩ := and2 h1
          obtain ⟨h6', h7, h8⟩ := and3 h4
          obtain ⟨h9, h6⟩ := and2 h6'
          have e1 : nm = bmName b := beq_iff_eq.mp h6
          cases b with
          | join =>
            cases es with
            | nil => cases h9
            | cons e es =>
              cases xs with
              | nil => cases h3
              | cons y xs =>
                obtain ⟨k1, k2⟩ := and2 (show (agE G e S y && agEs G es S xs) = true from h3)
                exact z_join C e1 (sE Ar a B true C h7) h8 h5 (sEs Ar (.cons e es) B true C h3) (agE_hd k1) (noStar k2) (form_ok h3 (of_decide_eq_true h2))
          | bits =>
            cases es with
            | cons e es => cases h9
            | nil =>
              cases xs with
              | nil => exact z_bits C e1 (sE Ar a B true C h7) h8 h5
              | cons _ _ => cases h3
          | index =>
            cases es with
            | nil => cases h9
            | cons e es =>
              cases xs with
              | nil => cases h3
              | cons y xs =>
                obtain ⟨k1, k2⟩ := and2 (show (agE G e S y && agEs G es S xs) = true from h3)
                exact z_index C e1 (sE Ar a B true C h7) h8 h5 (sEs Ar (.cons e es) B true C h3) (agE_hd k1) (noStar k2) (form_ok h3 (of_decide_eq_true h2))
      | _ => cases h
    | _ => cases h
  | .rev a, X, S, W, B, m, x, C, h => by
    obtain ⟨y, k, p1, p2, p3, pos, rfl, h1⟩ := rev_inv h
    exact z_rev (sE Ar a B true C h1)
  | .lrg es, X, S, W, B, m, x, C, h => by
    obtain ⟨y, p, z, p2, xs, pos, pos', rfl, h'⟩ := lrg_inv h
    obtain ⟨h1, h2, h3⟩ := and3 h'
    obtain ⟨a1, a2⟩ := and2 h1
    obtain ⟨b1, b2⟩ := and2 h2
    obtain ⟨c1, c2⟩ := and2 h3
    cases es with
    | nil => cases c1
    | cons e es =>
      cases xs with
      | nil => cases c2
      | cons a xs =>
        obtain ⟨k1, k2⟩ := and2 (show (agE G e S a && agEs G es S xs) = true from c2)
        cases es with
        | nil =>
          cases xs with
          | cons _ _ => cases k2
          | nil =>
            refine PE.imp (z_lrg1 (m := m) C (beq_iff_eq.mp a1) a2 (beq_iff_eq.mp b1) b2 (sE Ar e B true C k1) (agE_hd k1)) fun σ H Q ⟨w, ρ, μ, Co, So, P⟩ => ⟨w, ρ, μ, Co, So, ?_⟩
            have P' : PostE X.K G.toGi m H w Q (WE W σ) (((denE G.cs Φ e true ρ μ).bind fun d μ => R.ok [d] μ).bind fun ds μ => .opt ((lrgD ds).map .lst) μ) := P
            rw [R.bind_assoc] at P'
            exact P'
        | cons e2 es =>
          cases xs with
          | nil => cases k2
          | cons b xs =>
            obtain ⟨k3, k4⟩ := and2 (show (agE G e2 S b && agEs G es S xs) = true from k2)
            cases es with
            | cons _ _ => cases c1
            | nil =>
              cases xs with
              | cons _ _ => cases k4
              | nil =>
                refine PE.imp (z_lrg2 (m := m) C (beq_iff_eq.mp a1) a2 (beq_iff_eq.mp b1) b2 (sE Ar e B true C k1) (sE Ar e2 B true C k3) (agE_hd k1) (agE_hd k3)) fun σ H Q ⟨w, ρ, μ, Co, So, P⟩ => ⟨w, ρ, μ, Co, So, ?_⟩
                have P' : PostE X.K G.toGi m H w Q (WE W σ) (((denE G.cs Φ e true ρ μ).bind fun d μ => ((denE G.cs Φ e2 true ρ μ).bind fun d2 μ => R.ok [d2] μ).bind fun ds μ => R.ok (d :: ds) μ).bind fun ds μ => .opt ((lrgD ds).map .lst) μ) := P
                rw [R.bind_assoc] at P'
                have e4 : (fun d μ => (((denE G.cs Φ e2 true ρ μ).bind fun d2 μ => R.ok [d2] μ).bind fun ds μ => R.ok (d :: ds) μ).bind fun ds μ => R.opt ((lrgD ds).map D.lst) μ) = fun d μ => (denE G.cs Φ e2 true ρ μ).bind fun y μ => R.opt ((lrgD [d, y]).map D.lst) μ := by
                  funext d μ
                  rw [R.bind_assoc, R.bind_assoc]
                  rfl
                rw [e4] at P'
                exact P'
  | .is2 t u e, X, S, W, B, m, x, C, h => by
    obtain ⟨y, p, z, a, q1, b, q2, kk, tp, pos, rfl, h'⟩ := is2_inv h
    obtain ⟨h1, h2, h3⟩ := and3 h'
    obtain ⟨a1, a2⟩ := and2 h1
    obtain ⟨b1, b2⟩ := and2 h2
    obtain ⟨c1, c2, c3⟩ := and3 h3
    have e1 : a = tyName t := beq_iff_eq.mp b1
    have e2 : b = tyName u := beq_iff_eq.mp c1
    subst e1 e2
    exact z_is2 C (beq_iff_eq.mp a1) a2 b2 c2 (sE Ar e B true C c3) (agE_hd c3)
theorem sEs (Ar : Arity G Φ) : ∀ (es : Exs) {X : Cx} {S : SC} {W : WX} (B : Ent) (m : Bool) {xs : List Expr}, Cxt G Φ n X S W → agEs G es S xs = true → PA X xs (zA G X B W m (denEs G.cs Φ es m))
  | .nil, X, S, W, B, m, xs, C, h => by
    cases xs with
    | nil => exact az_nil
    | cons _ _ => cases h
  | .cons e es, X, S, W, B, m, xs, C, h => by
    cases xs with
    | nil => cases h
    | cons x xs =>
      obtain ⟨k1, k2⟩ := and2 (show (agE G e S x && agEs G es S xs) = true from h)
      exact az_cons (sE Ar e B m C k1) (sEs Ar es B m C k2) (agE_hd k1)
theorem sBop (Ar : Arity G Φ) (o : BoolOp) : ∀ (es : Exs) {X : Cx} {S : SC} {W : WX} (B : Ent) (m : Bool) {xs : List Expr} {pos : Pos}, Cxt G Φ n X S W → es.isNil = false → agEs G es S xs = true → PE X (.BoolOp o xs pos) (zE G X B W m (denBop G.cs Φ o es m))
  | .nil, X, S, W, B, m, xs, pos, C, hn, h => by cases hn
  | .cons e .nil, X, S, W, B, m, xs, pos, C, hn, h => by
    cases xs with
    | nil => cases h
    | cons x xs =>
      cases xs with
      | cons _ _ =>
        obtain ⟨k1, k2⟩ := and2 h
        cases k2
      | nil =>
        obtain ⟨k1, k2⟩ := and2 (show (agE G e S x && agEs G .nil S []) = true from h)
        exact z_bop1 (sE Ar e B m C k1)
  | .cons e (.cons e2 es), X, S, W, B, m, xs, pos, C, hn, h => by
    cases xs with
    | nil => cases h
    | cons x xs =>
      obtain ⟨k1, k2⟩ := and2 (show (agE G e S x && agEs G (.cons e2 es) S xs) = true from h)
      cases xs with
      | nil => cases k2
      | cons y xs => exact z_bop (sE Ar e B m C k1) (sBop Ar o (.cons e2 es) B m C rfl k2)
theorem sT (Ar : Arity G Φ) : ∀ (t : Te) {X : Cx} {S : SC} {W : WX} (B : Ent) {x : Expr}, Cxt G Φ n X S W → agT G t S x = true → PT X x (zT G X B W (denT G.cs Φ t))
  | .val e, X, S, W, B, x, C, h => by
    have h' : ((plainT x || isCmp x) && agE G e S x) = true := h
    obtain ⟨h1, h2⟩ := and2 h'
    by_cases hp : plainT x = true
    · exact tz_val (sE Ar e B true C h2) hp
    · cases e with
      | cmp o a b =>
        obtain ⟨x, y, pos, rfl, k1, k2⟩ := cmp_inv h2
        rw [denCmpT]
        exact tz_cmp C (sE Ar a B true C k1) (sE Ar b B true C k2) (agE_hd k2)
      | chn o q a b c =>
        obtain ⟨x, y, z, pos, rfl, k1, k2, k3⟩ := chn_inv h2
        rw [denChnT]
        exact tz_chn C (sE Ar a B true C k1) (sE Ar b B true C k2) (sE Ar c B true C k3) (agE_hd k2) (agE_hd k3)
      | new nn => exact (notCmp (fun x ps ys pos hh => by cases nn <;> cases hh) hp h1 h2).elim
      | cel nn => exact (notCmp (fun x ps ys pos hh => by cases nn <;> cases hh) hp h1 h2).elim
      | _ => exact (notCmp (fun x ps ys pos hh => by cases hh) hp h1 h2).elim
  | .not t, X, S, W, B, x, C, h => by
    cases x with
    | UnaryOp o x pos =>
      cases o with
      | Not => exact tz_not (sT Ar t B C h)
      | _ => cases h
    | _ => cases h
  | .bop o ts, X, S, W, B, x, C, h => by
    cases x with
    | BoolOp p xs pos =>
      obtain ⟨h1, h2, h3⟩ := and3 h
      have e : o = p := of_decide_eq_true h1
      subst e
      exact (sTs Ar o ts B C (by simpa using h2) h3).pt
    | _ => cases h
theorem sTs (Ar : Arity G Φ) (o : BoolOp) : ∀ (ts : Tes) {X : Cx} {S : SC} {W : WX} (B : Ent) {xs : List Expr} {pos : Pos}, Cxt G Φ n X S W → ts.isNil = false → agTs G ts S xs = true → PW X (.BoolOp o xs pos) (zT G X B W (denTs G.cs Φ o ts))
  | .nil, X, S, W, B, xs, pos, C, hn, h => by cases hn
  | .cons t .nil, X, S, W, B, xs, pos, C, hn, h => by
    cases xs with
    | nil => cases h
    | cons x xs =>
      cases xs with
      | cons _ _ =>
        obtain ⟨k1, k2⟩ := and2 h
        cases k2
      | nil =>
        obtain ⟨k1, k2⟩ := and2 (show (agT G t S x && agTs G .nil S []) = true from h)
        rw [denTs_one]
        exact tz_one (sT Ar t B C k1)
  | .cons t (.cons t2 ts), X, S, W, B, xs, pos, C, hn, h => by
    cases xs with
    | nil => cases h
    | cons x xs =>
      obtain ⟨k1, k2⟩ := and2 (show (agT G t S x && agTs G (.cons t2 ts) S xs) = true from h)
      cases xs with
      | nil => cases k2
      | cons y xs =>
        cases o with
        | And => rw [denTs_and]; exact tz_and (sT Ar t B C k1) (sTs Ar .And (.cons t2 ts) B C rfl k2)
        | Or => rw [denTs_or]; exact tz_or (sT Ar t B C k1) (sTs Ar .Or (.cons t2 ts) B C rfl k2)
theorem sN (Ar : Arity G Φ) : ∀ (e : Nw) {X : Cx} {S : SC} {W : WX} (B : Ent) {x : Expr}, Cxt G Φ n X S W → agN G e S x = true → PE X x (zN G X B W (denN G.cs Φ e))
  | .dis es, X, S, W, B, x, C, h => by
    cases x with
    | List xs pos => exact zn_dis (sEs Ar es B false C h)
    | _ => cases h
  | .cat a b, X, S, W, B, x, C, h => by
    cases x with
    | BinOp x o y pos =>
      cases o with
      | Add =>
        obtain ⟨h1, h2⟩ := and2 (show (agE G a S x && agE G b S y) = true from h)
        exact zn_cat (sE Ar a B true C h1) (sE Ar b B true C h2)
      | _ => cases h
    | _ => cases h
  | .rep a b, X, S, W, B, x, C, h => by
    cases x with
    | BinOp x o y pos =>
      cases o with
      | Mult =>
        obtain ⟨h1, h2⟩ := and2 (show (agE G a S x && agE G b S y) = true from h)
        exact zn_rep (sE Ar a B true C h1) (sE Ar b B true C h2)
      | _ => cases h
    | _ => cases h
  | .slc a lo hi, X, S, W, B, x, C, h => by
    cases x with
    | Subscript x y pos =>
      cases y with
      | Slice l hh st p =>
        cases st with
        | none =>
          obtain ⟨h1, h2, h3⟩ := and3 h
          exact zn_slc (sE Ar a B true C h1) (sO Ar lo B C h2) (sO Ar hi B C h3)
        | some _ => cases h
      | _ => cases h
    | _ => cases h
  | .lof a, X, S, W, B, x, C, h => by
    cases x with
    | Call g xs ks pos =>
      cases g with
      | Name x p =>
        cases xs with
        | nil => cases h
        | cons y xs =>
          cases xs with
          | cons _ _ => cases h
          | nil =>
            cases ks with
            | cons _ _ => cases h
            | nil =>
              obtain ⟨h1, h2, h3⟩ := and3 (show (x == ("list" : Str) && freeB G S x && agE G a S y) = true from h)
              exact zn_lof C (beq_iff_eq.mp h1) h2 (sE Ar a B true C h3) (agE_hd h3)
      | _ => cases h
    | _ => cases h
  | .cmp ws elt t w c, X, S, W, B, x, C, h => by
    cases x with
    | ListComp e cl scope pos =>
      obtain ⟨tg, it, ifs, k, e1, h'⟩ : ∃ tg it ifs k, cl = [⟨tg, it, ifs, k⟩] ∧ (decide (k = 0) && blkC S.N S.sc scope (ownOf S ws) && t.slots.all ws.contains && agW G w S it tg && agG G t (inner S scope) tg && agC G c (inner S scope) ifs && agE G elt (inner S scope) e) = true := by
        match cl, h with
        | [⟨tg, it, ifs, k⟩], h => exact ⟨tg, it, ifs, k, rfl, h⟩
        | [], h => cases h
        | ⟨_, _, _, _⟩ :: _ :: _, h => cases h
      subst e1
      obtain ⟨h1, h2, h3⟩ := and3 h'
      obtain ⟨h4, h5⟩ := and2 h1
      obtain ⟨h6', h7, h8⟩ := and3 h4
      obtain ⟨h9, h6⟩ := and2 h6'
      have ek : k = 0 := of_decide_eq_true h9
      subst ek
      exact zn_cmp C h6 h7 (sW Ar w B true C h8) (agW_hd h8) (fun s H Ca cl fp => zg B (C.blk scope s H Ca cl fp) t h5) (fun s H Ca cl fp => sC Ar c B (C.blk scope s H Ca cl fp) h2) (fun s H Ca cl fp => sE Ar elt B false (C.blk scope s H Ca cl fp) h3)
    | _ => cases h
theorem sO (Ar : Arity G Φ) : ∀ (o : Oe) {X : Cx} {S : SC} {W : WX} (B : Ent) {x : Option Expr}, Cxt G Φ n X S W → agO G o S x = true → PO X x (zO G X B W (denO G.cs Φ o))
  | .no, X, S, W, B, x, C, h => by
    cases x with
    | none => exact zo_no
    | some _ => cases h
  | .so e, X, S, W, B, x, C, h => by
    cases x with
    | none => cases h
    | some x => exact zo_so (sE Ar e B true C h)
  | .te t, X, S, W, B, x, C, h => by cases x <;> cases h
theorem sC (Ar : Arity G Φ) : ∀ (o : Oe) {X : Cx} {S : SC} {W : WX} (B : Ent) {xs : List Expr}, Cxt G Φ n X S W → agC G o S xs = true → PTs X xs (zT G X B W (denC G.cs Φ o))
  | .no, X, S, W, B, xs, C, h => by
    cases xs with
    | nil => exact ⟨fun pins s σ H Q I ⟨w, ρ, μ, Co, So, P⟩ => pts_nil.run pins s σ H Q I (P H w (.refl H w) Co)⟩
    | cons _ _ => cases h
  | .te t, X, S, W, B, xs, C, h => by
    cases xs with
    | nil => cases h
    | cons x xs =>
      cases xs with
      | cons _ _ => cases h
      | nil => exact pts_one (sT Ar t B C h)
  | .so e, X, S, W, B, xs, C, h => by cases xs <;> cases h
theorem sW (Ar : Arity G Φ) : ∀ (w : Wk) {X : Cx} {S : SC} {W : WX} (B : Ent) (m : Bool) {x tg : Expr}, Cxt G Φ n X S W → agW G w S x tg = true → PI X tg x (zW G X B W m (denW G.cs Φ w m))
  | .lst e, X, S, W, B, m, x, tg, C, h => zw_lst (sE Ar e B m C h)
  | .tup e, X, S, W, B, m, x, tg, C, h => zw_tup (sE Ar e B m C h)
  | .str e, X, S, W, B, m, x, tg, C, h => zw_str (sE Ar e B m C h)
  | .rng es, X, S, W, B, m, x, tg, C, h => by
    cases x with
    | Call g xs ks pos =>
      cases g with
      | Name x p =>
        cases ks with
        | cons _ _ => cases h
        | nil =>
          have h' : (rngB es && x == ("range" : Str) && freeB G S x && agEs G es S xs) = true := h
          obtain ⟨h1', h2, h3⟩ := and3 h'
          obtain ⟨h0, h1⟩ := and2 h1'
          cases es with
          | nil => cases h0
          | cons e es =>
            cases xs with
            | nil => cases h3
            | cons a xs =>
              obtain ⟨k1, k2⟩ := and2 (show (agE G e S a && agEs G es S xs) = true from h3)
              cases es with
              | nil =>
                cases xs with
                | cons _ _ => cases k2
                | nil =>
                  have := zw_rng1 (m := m) (tg := tg) (p := p) (pos := pos) C (beq_iff_eq.mp h1) h2 (sE Ar e B true C k1) (agE_hd k1)
                  refine PI.imp this fun σ H Q ⟨w, ρ, μ, Co, So, P⟩ => ⟨w, ρ, μ, Co, So, ?_⟩
                  have P' : PostW X.K G.toGi m H w Q (WE W σ) (((denE G.cs Φ e true ρ μ).bind fun d μ => R.ok [d] μ).bind fun ds μ => .opt (rngD ds) μ) := P
                  rw [R.bind_assoc] at P'
                  exact P'
              | cons e2 es =>
                cases xs with
                | nil => cases k2
                | cons b xs =>
                  obtain ⟨k3, k4⟩ := and2 (show (agE G e2 S b && agEs G es S xs) = true from k2)
                  cases es with
                  | cons e3 es =>
                    cases xs with
                    | nil => cases k4
                    | cons c xs =>
                      obtain ⟨k5, k6⟩ := and2 (show (agE G e3 S c && agEs G es S xs) = true from k4)
                      cases es with
                      | cons _ _ => cases h0
                      | nil =>
                        cases xs with
                        | cons _ _ => cases k6
                        | nil =>
                          have := zw_rng3 (m := m) (tg := tg) (p := p) (pos := pos) C (beq_iff_eq.mp h1) h2 (sE Ar e B true C k1) (sE Ar e2 B true C k3) (sE Ar e3 B true C k5) (agE_hd k1) (agE_hd k3) (agE_hd k5)
                          refine PI.imp this fun σ H Q ⟨w, ρ, μ, Co, So, P⟩ => ⟨w, ρ, μ, Co, So, ?_⟩
                          have P' : PostW X.K G.toGi m H w Q (WE W σ) (((denE G.cs Φ e true ρ μ).bind fun d μ => ((denE G.cs Φ e2 true ρ μ).bind fun d2 μ => ((denE G.cs Φ e3 true ρ μ).bind fun d3 μ => R.ok [d3] μ).bind fun ds μ => R.ok (d2 :: ds) μ).bind fun ds μ => R.ok (d :: ds) μ).bind fun ds μ => .opt (rngD ds) μ) := P
                          rw [R.bind_assoc] at P'
                          have e4 : (fun d μ => (((denE G.cs Φ e2 true ρ μ).bind fun d2 μ => ((denE G.cs Φ e3 true ρ μ).bind fun d3 μ => R.ok [d3] μ).bind fun ds μ => R.ok (d2 :: ds) μ).bind fun ds μ => R.ok (d :: ds) μ).bind fun ds μ => R.opt (rngD ds) μ) = fun d μ => (denE G.cs Φ e2 true ρ μ).bind fun y μ => (denE G.cs Φ e3 true ρ μ).bind fun z μ => R.opt (rngD [d, y, z]) μ := by
                            funext d μ
                            rw [R.bind_assoc, R.bind_assoc]
                            congr 1
                            funext y μ
                            show ((((denE G.cs Φ e3 true ρ μ).bind fun d3 μ => R.ok [d3] μ).bind fun ds μ => R.ok (y :: ds) μ).bind fun ds μ => R.bind (R.ok (d :: ds) μ) fun ds μ => R.opt (rngD ds) μ) = _
                            rw [R.bind_assoc, R.bind_assoc]
                            rfl
                          rw [e4] at P'
                          exact P'
                  | nil =>
                    cases xs with
                    | cons _ _ => cases k4
                    | nil =>
                      have := zw_rng2 (m := m) (tg := tg) (p := p) (pos := pos) C (beq_iff_eq.mp h1) h2 (sE Ar e B true C k1) (sE Ar e2 B true C k3) (agE_hd k1) (agE_hd k3)
                      refine PI.imp this fun σ H Q ⟨w, ρ, μ, Co, So, P⟩ => ⟨w, ρ, μ, Co, So, ?_⟩
                      have P' : PostW X.K G.toGi m H w Q (WE W σ) (((denE G.cs Φ e true ρ μ).bind fun d μ => ((denE G.cs Φ e2 true ρ μ).bind fun d2 μ => R.ok [d2] μ).bind fun ds μ => R.ok (d :: ds) μ).bind fun ds μ => .opt (rngD ds) μ) := P
                      rw [R.bind_assoc] at P'
                      have e4 : (fun d μ => (((denE G.cs Φ e2 true ρ μ).bind fun d2 μ => R.ok [d2] μ).bind fun ds μ => R.ok (d :: ds) μ).bind fun ds μ => R.opt (rngD ds) μ) = fun d μ => (denE G.cs Φ e2 true ρ μ).bind fun y μ => R.opt (rngD [d, y]) μ := by
                        funext d μ
                        rw [R.bind_assoc, R.bind_assoc]
                        rfl
                      rw [e4] at P'
                      exact P'
      | _ => cases h
    | _ => cases h
  | .enu e, X, S, W, B, m, x, tg, C, h => by
    cases x with
    | Call g xs ks pos =>
      cases g with
      | Name x p =>
        cases xs with
        | nil => cases h
        | cons y xs =>
          cases xs with
          | cons _ _ => cases h
          | nil =>
            cases ks with
            | cons _ _ => cases h
            | nil =>
              have h' : (x == ("enumerate" : Str) && freeB G S x && isTup tg && agE G e S y) = true := h
              obtain ⟨h1, h2⟩ := and2 h'
              obtain ⟨h3, h4, h5⟩ := and3 h1
              exact zw_enu C (beq_iff_eq.mp h3) h4 h5 (sE Ar e B m C h2) (agE_hd h2)
      | _ => cases h
    | _ => cases h
  | .zip a b, X, S, W, B, m, x, tg, C, h => by
    obtain ⟨y, p, u, v, pos, rfl, h'⟩ := zip_inv h
    obtain ⟨h1, h2⟩ := and2 h'
    obtain ⟨h3, h4, h5⟩ := and3 h1
    obtain ⟨k1, k2⟩ := and2 h2
    exact zw_zip C (beq_iff_eq.mp h3) h4 h5 (sE Ar a B false C k1) (sE Ar b B false C k2) (agE_hd k1) (agE_hd k2)
end
end
end Z

/-! Z13: what a statement's meaning asks of the machine; places, changes. -/
namespace Z
open PySem PySem.Spec PyProof.Rows L2

/-! ### posts -/
def PostS (K : PySem.W.Frag) (G : Gi) (B : Ent) (w : Wd) (D : Ends) (W : WX) : RS → Prop
  | .nx ρ μ => ∀ σ' H' w', w.le w' → Cok K G w' H' μ → Sok K G B w' H' σ' ρ → D.nx σ' H'
  | .rt d μ => ∀ v H' w', Step B.H B.w H' w' → Cok K G w' H' μ → Rep K G w' d v → D.rt v H'
  | .bk ρ μ => ∀ σ' H' w', w.le w' → Cok K G w' H' μ → Sok K G B w' H' σ' ρ → D.bk σ' H'
  | .ct ρ μ => ∀ σ' H' w', w.le w' → Cok K G w' H' μ → Sok K G B w' H' σ' ρ → D.ct σ' H'
  | .ex c a ρ μ => ∀ cls dd σ' H' w', w.le w' → Cok K G w' H' μ → Sok K G B w' H' σ' ρ → ExcAt K G w' H' c a cls dd → W cls dd σ' H'
  | .bad => False
/-- of a change at a place: what comes out, the slots -/
def PostC (K : PySem.W.Frag) (G : Gi) (B : Ent) (σ : L2.St) (H : Hp) (w : Wd) (Q : VK) (E : XK) : R (D × Rho) → Prop := Post (fun r μ => ∀ v H' w', w.le w' → Cok K G w' H' μ → Sok K G B w' H' σ r.2 → Rep K G w' r.1 v → Q v H') (ExP K G H w E)
def SlotV (K : PySem.W.Frag) (G : Gi) (H : Hp) (w' : Wd) (H' : Hp) (v : V) : Slot → Prop
  | .val d => Rep K G w' d v
  | .own ds => ∃ p, v = .ref p ∧ Fresh K G H w' H' ds p
  | .emp => False
def PostR (K : PySem.W.Frag) (G : Gi) (H : Hp) (w : Wd) (Q : VK) (E : XK) : R Slot → Prop := Post (fun s μ => ∀ v H' w', Step H w H' w' → Cok K G w' H' μ → SlotV K G H w' H' v s → Q v H') (ExP K G H w E)
section
variable (K : PySem.W.Frag) (G : Gi) (B : Ent) (W : WX)
def tZS (g : Rho → Mu → RS) : TS := fun D σ H => ∃ w ρ μ, Cok K G w H μ ∧ Sok K G B w H σ ρ ∧ PostS K G B w D W (g ρ μ)
def tZc (g : Rho → Mu → R (D × Rho)) : TE := fun σ H Q => ∃ w ρ μ, Cok K G w H μ ∧ Sok K G B w H σ ρ ∧ PostC K G B σ H w Q (WE W σ) (g ρ μ)
def tZr (g : Rho → Mu → R Slot) : TE := fun σ H Q => ∃ w ρ μ, Cok K G w H μ ∧ Sok K G B w H σ ρ ∧ PostR K G H w Q (WE W σ) (g ρ μ)
end
section
variable {K : PySem.W.Frag} {G : Gi} {B : Ent} {W : WX} {H H1 : Hp} {w w1 : Wd} {E : XK} {σ : L2.St} {ρ : Rho} {D : Ends}
theorem PostS.shift (s : w.le w1) {r : RS} (h : PostS K G B w D W r) : PostS K G B w1 D W r := by
  cases r with
  | nx ρ μ => exact fun σ' H' w' l C S => h σ' H' w' (s.trans l) C S
  | rt d μ => exact h
  | bk ρ μ => exact fun σ' H' w' l C S => h σ' H' w' (s.trans l) C S
  | ct ρ μ => exact fun σ' H' w' l C S => h σ' H' w' (s.trans l) C S
  | ex c a ρ μ => exact fun cls dd σ' H' w' l C S x => h cls dd σ' H' w' (s.trans l) C S x
  | bad => exact h
theorem PostS.bindR {α : Type} {A : α → Mu → Prop} {r : R α} {k : α → Mu → RS} (P : PostS K G B w D W (RS.bindR ρ r k)) (So : Sok K G B w H σ ρ) (h : ∀ a μ, PostS K G B w D W (k a μ) → A a μ) : Post A (ExP K G H w (WE W σ)) r := by
  cases r with
  | ok a μ => exact h a μ P
  | ex c a μ => exact fun cls dd H' w' s C x => P cls dd σ H' w' s.le C (So.step s) x
  | bad => exact P
theorem PostR.shift {Q : VK} (s : Step H w H1 w1) {r : R Slot} (h : PostR K G H w Q E r) : PostR K G H1 w1 Q E r := by
  cases r with
  | ok a μ => exact fun v H' w' s' C sv => h v H' w' (s.trans s') C (by
      cases a with
      | val d => exact sv
      | own ds => obtain ⟨p, e, f⟩ := sv; exact ⟨p, e, f.at_, s.none f.new, f.na, f.nf⟩
      | emp => exact sv)
  | ex c a μ => exact ExP.shift s h
  | bad => exact h
theorem bindR_bind {α β : Type} (r : R α) (f : α → Mu → R β) (k : β → Mu → RS) : RS.bindR ρ (r.bind f) k = RS.bindR ρ r fun a μ => RS.bindR ρ (f a μ) k := by
  cases r <;> rfl
/-- an own list is rewritten -/
theorem Sok.upd (S : Sok K G B w H σ ρ) {i : Nat} {xs ys : List Z.D} {a : Addr} {vs vs' : List V} (e : ρ[i]? = some (.own xs)) (h : σ[i]? = some (some (.ref a))) (hv : H a = some (.lst vs)) (r : RepL K G w ys vs') :
    Sok K G B w (L2.upd H a (.lst vs')) σ (List.set ρ i (.own ys)) := by
  have hi : i < ρ.length := (List.getElem?_eq_some_iff.mp e).1
  have s0 := S.slot i _ e
  obtain ⟨a', vs0, q1, q2, q3, q4, q5, q6⟩ := s0
  rw [h] at q1
  cases q1
  refine ⟨by rw [List.length_set]; exact S.len, fun j s ej => ?_, fun j k xs1 ys1 e1 e2 e3 => ?_, S.st.own q6⟩
  · by_cases hj : i = j
    · subst hj
      rw [List.getElem?_set_self hi] at ej
      cases ej
      exact ⟨a, vs', h, upd_same, r, q4, q5, q6⟩
    · rw [List.getElem?_set_ne hj] at ej
      have sj := S.slot j s ej
      cases s with
      | emp => trivial
      | val d => exact sj
      | own ds =>
        obtain ⟨b, us, z1, z2, z3, z4, z5, z6⟩ := sj
        have ne : b ≠ a := fun z => hj (S.apart i j xs ds e ej (by rw [h, z1, z]))
        exact ⟨b, us, z1, by rw [upd_ne ne]; exact z2, z3, z4, z5, z6⟩
  · have un : ∀ {j : Nat} {xs1 : List Z.D}, (List.set ρ i (.own ys))[j]? = some (.own xs1) → ∃ zs, ρ[j]? = some (.own zs) := fun {j xs1} ej => by
      by_cases hj : i = j
      · subst hj; exact ⟨xs, e⟩
      · rw [List.getElem?_set_ne hj] at ej; exact ⟨_, ej⟩
    obtain ⟨z1, f1⟩ := un e1
    obtain ⟨z2, f2⟩ := un e2
    exact S.apart j k z1 z2 f1 f2 e3
/-- an own list becomes one that never changes -/
theorem Sok.frz (S : Sok K G B w H σ ρ) {μ : Mu} (C : Cok K G w H μ) {i : Nat} {xs : List Z.D} (e : ρ[i]? = some (.own xs)) :
    ∃ w', w.le w' ∧ Cok K G w' H μ ∧ Sok K G B w' H σ (List.set ρ i (.val (.lst xs))) := by
  have hi : i < ρ.length := (List.getElem?_eq_some_iff.mp e).1
  obtain ⟨a, vs, q1, q2, q3, q4, q5, q6⟩ := S.slot i _ e
  have le : w.le ⟨L2.upd w.F a (.lst vs), w.α⟩ := ⟨fun b o h => by
    have ne : b ≠ a := fun z => by rw [z, q5] at h; cases h
    show L2.upd w.F a _ b = some o
    rw [upd_ne ne]; exact h, [], by simp⟩
  refine ⟨⟨L2.upd w.F a (.lst vs), w.α⟩, le, ⟨fun b o h => ?_, C.len, C.nd, fun b hb => ?_, fun n b c e1 e2 => (C.cel n b c e1 e2).step le fun _ z => z⟩, ⟨by rw [List.length_set]; exact S.len, fun j s ej => ?_, fun j k xs1 ys1 e1 e2 e3 => ?_, ?_⟩⟩
  · by_cases hb : b = a
    · subst hb
      have h' : L2.upd w.F b (.lst vs) b = some o := h
      rw [upd_same] at h'
      rw [← h']; exact q2
    · have h' : L2.upd w.F a (.lst vs) b = some o := h
      rw [upd_ne hb] at h'
      exact C.fz b o h'
  · have ne : b ≠ a := fun z => q4 (z ▸ hb)
    show L2.upd w.F a _ b = none
    rw [upd_ne ne]; exact C.fa b hb
  · by_cases hj : i = j
    · subst hj
      rw [List.getElem?_set_self hi] at ej
      cases ej
      exact ⟨.ref a, q1, a, vs, rfl, (by show L2.upd w.F a _ a = _; exact upd_same), RepL.le le xs q3⟩
    · rw [List.getElem?_set_ne hj] at ej
      have sj := S.slot j s ej
      cases s with
      | emp => trivial
      | val d => obtain ⟨v, z1, z2⟩ := sj; exact ⟨v, z1, Rep.le le d z2⟩
      | own ds =>
        obtain ⟨b, us, z1, z2, z3, z4, z5, z6⟩ := sj
        have ne : b ≠ a := fun z => hj (S.apart i j xs ds e ej (by rw [q1, z1, z]))
        exact ⟨b, us, z1, z2, RepL.le le ds z3, z4, (by show L2.upd w.F a _ b = none; rw [upd_ne ne]; exact z5), z6⟩
  · have un : ∀ {j : Nat} {xs1 : List Z.D}, (List.set ρ i (.val (.lst xs)))[j]? = some (.own xs1) → ρ[j]? = some (.own xs1) := fun {j xs1} ej => by
      by_cases hj : i = j
      · subst hj; rw [List.getElem?_set_self hi] at ej; cases ej
      · rw [List.getElem?_set_ne hj] at ej; exact ej
    exact S.apart j k xs1 ys1 (un e1) (un e2) e3
  · refine ⟨S.st.le.trans le, S.st.h, S.st.t, fun b o h => ?_, S.st.na⟩
    have ne : b ≠ a := fun z => by rw [z, q6] at h; cases h
    show L2.upd w.F a _ b = _
    rw [upd_ne ne]; exact S.st.nf b o h
end
/-! ### places -/
def agP (G : Gs) (p : Pl) (S : SC) (x : Expr) : Bool := match p, x with
  | .own i, .Name x _ => slotB S i x && vis S x && plainNm x
  | .ref e, x => agE G e S x
  | _, _ => false
section
variable {G : Gs} {Φ : Phi} {n : Nat} {X : Cx} {S : SC} {W : WX} {B : Ent}
def tPl (G : Gs) (Φ : Phi) (X : Cx) (B : Ent) (W : WX) (p : Pl) : TE := match p with
  | .own i => tVar i
  | .ref e => zE G X B W false (denE G.cs Φ e false)
theorem zp (Ar : Arity G Φ) (C : Cxt G Φ n X S W) {p : Pl} {x : Expr} (h : agP G p S x = true) : PE X x (tPl G Φ X B W p) := by
  cases p with
  | own i =>
    cases x with
    | Name x q =>
      obtain ⟨h1, h2, h3⟩ := and3 (show (slotB S i x && vis S x && plainNm x) = true from h)
      unfold plainNm at h3
      simp only [Bool.and_eq_true, Bool.not_eq_true'] at h3
      exact pe_var (i := i) (by rw [C.N]; exact slotB_ok h1) (vis_ok C h2) h3.1 h3.2
    | _ => cases h
  | ref e => exact sE Ar e B false C h
/-- what is asked of the arguments of a change at a place -/
def ArgP {α : Type} (K : PySem.W.Frag) (G : Gi) (k : List D → α → Option (List D)) (res : List D → α → Option D) (Q : VK) (E : XK) (x : V) (H1 : Hp) (w1 : Wd) : R α → Prop :=
  Post (fun a μ2 => ∀ H2 w2, Step H1 w1 H2 w2 → Cok K G w2 H2 μ2 → ∃ l vs xs ys d, x = .ref l ∧ H2 l = some (.lst vs) ∧ RepL K G w2 xs vs ∧ k xs a = some ys ∧ res xs a = some d ∧ ∀ v vs', Rep K G w2 d v → RepL K G w2 ys vs' → Q v (upd H2 l (.lst vs'))) (ExP K G H1 w1 E)
theorem getOwn_of {ρ : Rho} {i : Nat} {xs : List D} (h : getOwn ρ i = some xs) : ρ[i]? = some (.own xs) := by
  unfold getOwn at h
  cases e : ρ[i]? with
  | none => rw [e] at h; cases h
  | some s =>
    rw [e] at h
    cases s with
    | own ys => cases h; rfl
    | _ => cases h
theorem Pl.get_of {μ : Mu} {x : D} {n : Nat} {xs : List D} (h : Pl.get μ x = some (n, xs)) : x = .loc n ∧ μ[n]? = some (.lst xs) := by
  cases x with
  | loc m =>
    have h' : (match μ[m]? with
      | some (.lst xs) => some (m, xs)
      | _ => none) = some (n, xs) := h
    cases e : μ[m]? with
    | none => rw [e] at h'; cases h'
    | some c =>
      rw [e] at h'
      cases c with
      | lst ys => cases h'; exact ⟨rfl, e⟩
      | obj _ _ => cases h'
  | _ => cases h
theorem place {α : Type} {p : Pl} {w : Wd} {ρ : Rho} {μ : Mu} {σ : L2.St} {H : Hp} {arg : Mu → R α} {k : List D → α → Option (List D)} {res : List D → α → Option D} {Q : VK} (Co : Cok X.K G.toGi w H μ) (So : Sok X.K G.toGi B w H σ ρ)
    (P : PostC X.K G.toGi B σ H w Q (WE W σ) (chgR G.cs Φ p ρ μ arg k res)) : tPl G Φ X B W p σ H fun x H1 => tyV X.K "list" x H1 ∧ ∃ w1 μ1, w.le w1 ∧ Cok X.K G.toGi w1 H1 μ1 ∧ Sok X.K G.toGi B w1 H1 σ ρ ∧ ArgP X.K G.toGi k res Q (WE W σ) x H1 w1 (arg μ1) := by
  cases p with
  | own i =>
    have P' : PostC X.K G.toGi B σ H w Q (WE W σ) (match getOwn ρ i with
      | none => .bad
      | some xs => (arg μ).bind fun a μ => match k xs a, res xs a with
        | some ys, some d => .ok (d, List.set ρ i (.own ys)) μ
        | _, _ => .bad) := P
    cases eo : getOwn ρ i with
    | none => rw [eo] at P'; exact P'.elim
    | some xs =>
      rw [eo] at P'
      have P2 : PostC X.K G.toGi B σ H w Q (WE W σ) ((arg μ).bind fun a μ => match k xs a, res xs a with
        | some ys, some d => .ok (d, List.set ρ i (.own ys)) μ
        | _, _ => .bad) := P'
      have eρ := getOwn_of eo
      obtain ⟨a, vs, q1, q2, q3, q4, q5, q6⟩ := So.slot i _ eρ
      refine ⟨.ref a, q1, .inl ⟨rfl, vs, SqL.of q2⟩, w, μ, .refl w, Co, So, Post.bind P2 fun c μ2 _ P3 H2 w2 s2 C2 => ?_⟩
      have h2 : H2 a = some (.lst vs) := s2.h _ _ q2 q4
      have n2 : a ∉ w2.α := fun m => q4 (s2.na _ _ q2 m)
      have f2 : w2.F a = none := by rw [s2.nf _ _ q2]; exact q5
      cases ek : k xs c with
      | none => rw [ek] at P3; exact P3.elim
      | some ys =>
        cases er : res xs c with
        | none => rw [ek, er] at P3; exact P3.elim
        | some d =>
          rw [ek, er] at P3
          exact ⟨a, vs, xs, ys, d, rfl, h2, RepL.le s2.le xs q3, ek, er, fun v vs' rv rl => P3 v _ w2 s2.le (C2.own n2 f2) ((So.step s2).upd eρ q1 h2 rl) rv⟩
  | ref e =>
    have P' : PostC X.K G.toGi B σ H w Q (WE W σ) ((denE G.cs Φ e false ρ μ).bind fun x μ1 => match Pl.get μ1 x with
      | none => .bad
      | some _ => (arg μ1).bind fun a μ => match Pl.get μ x with
        | some (n, xs) => match k xs a, res xs a with
          | some ys, some d => .ok (d, ρ) (μ.set n (.lst ys))
          | _, _ => .bad
        | none => .bad) := P
    refine ⟨w, ρ, μ, Co, So, Post.bind P' fun x μ1 _ P1 v H1 w1 s1 C1 r1 => ?_⟩
    cases e1 : Pl.get μ1 x with
    | none => rw [e1] at P1; exact P1.elim
    | some q =>
      obtain ⟨n1, xs1⟩ := q
      rw [e1] at P1
      obtain ⟨rfl, m1⟩ := Pl.get_of e1
      obtain ⟨a, rfl, ea⟩ := (show Rep X.K G.toGi w1 (.loc n1) v from r1)
      obtain ⟨vs1, h1, _⟩ := C1.cel n1 a _ ea m1
      refine ⟨.inl ⟨rfl, vs1, SqL.of h1⟩, w1, μ1, s1.le, C1, So.step s1, ?_⟩
      have P2 : PostC X.K G.toGi B σ H w Q (WE W σ) ((arg μ1).bind fun a μ => match Pl.get μ (.loc n1) with
        | some (n, xs) => match k xs a, res xs a with
          | some ys, some d => .ok (d, ρ) (μ.set n (.lst ys))
          | _, _ => .bad
        | none => .bad) := P1
      have P3 : Post (fun r μ => ∀ v H' w', w.le w' → Cok X.K G.toGi w' H' μ → Sok X.K G.toGi B w' H' σ r.2 → Rep X.K G.toGi w' r.1 v → Q v H') (ExP X.K G.toGi H1 w1 (WE W σ)) ((arg μ1).bind fun a μ => match Pl.get μ (.loc n1) with
        | some (n, xs) => match k xs a, res xs a with
          | some ys, some d => R.ok (d, ρ) (μ.set n (.lst ys))
          | _, _ => .bad
        | none => .bad) := by
        cases hz : ((arg μ1).bind fun a μ => match Pl.get μ (.loc n1) with
          | some (n, xs) => match k xs a, res xs a with
            | some ys, some d => R.ok (d, ρ) (μ.set n (.lst ys))
            | _, _ => .bad
          | none => .bad) with
        | ok r μ => rw [hz] at P2; exact P2
        | ex c a μ => rw [hz] at P2; exact ExP.shift s1 P2
        | bad => rw [hz] at P2; exact P2
      refine Post.bind P3 fun c μ2 _ P4 H2 w2 s2 C2 => ?_
      cases e2 : Pl.get μ2 (.loc n1) with
      | none => rw [e2] at P4; exact P4.elim
      | some q =>
        obtain ⟨n2, xs⟩ := q
        rw [e2] at P4
        obtain ⟨en, m2⟩ := Pl.get_of e2
        cases en
        have ea2 := s2.le.at ea
        obtain ⟨vs, h2, r2⟩ := C2.cel n1 a _ ea2 m2
        have P5 : Post (fun r μ => ∀ v H' w', w.le w' → Cok X.K G.toGi w' H' μ → Sok X.K G.toGi B w' H' σ r.2 → Rep X.K G.toGi w' r.1 v → Q v H') (ExP X.K G.toGi H1 w1 (WE W σ)) (match k xs c, res xs c with
            | some ys, some d => R.ok (d, ρ) (μ2.set n1 (.lst ys))
            | _, _ => .bad) := P4
        cases ek : k xs c with
        | none => rw [ek] at P5; exact P5.elim
        | some ys =>
          cases er : res xs c with
          | none => rw [ek, er] at P5; exact P5.elim
          | some d =>
            rw [ek, er] at P5
            exact ⟨a, vs, xs, ys, d, rfl, h2, r2, ek, er, fun v vs' rv rl => P5 v _ w2 (s1.le.trans s2.le) (C2.wr ea2 ⟨vs', upd_same, rl⟩) (((So.step s1).step s2).step (Step.wr ea2 h2)) rv⟩
theorem Post.mono {α : Type} {A A' : α → Mu → Prop} {E : Nat → Option D → Mu → Prop} {r : R α} (P : Post A E r) (h : ∀ a μ, A a μ → A' a μ) : Post A' E r := by
  cases r with
  | ok a μ => exact h a μ P
  | ex c a μ => exact P
  | bad => exact P
theorem tPl_mono {p : Pl} {σ : L2.St} {H : Hp} {Q Q' : VK} (h : tPl G Φ X B W p σ H Q) (hq : ∀ v H, Q v H → Q' v H) : tPl G Φ X B W p σ H Q' := by
  cases p with
  | own i =>
    obtain ⟨v, e, q⟩ := h
    exact ⟨v, e, hq _ _ q⟩
  | ref e =>
    obtain ⟨w, ρ, μ, Co, So, P⟩ := h
    exact ⟨w, ρ, μ, Co, So, Post.mono P fun d μ z v H' w' s C r => hq _ _ (z v H' w' s C r)⟩
/-! ### methods of lists -/
theorem dropLast_eq {α : Type} : ∀ xs : List α, xs.eraseIdx (xs.length - 1) = xs.dropLast
  | [] => rfl
  | [_] => rfl
  | a :: b :: r => by
    have := dropLast_eq (b :: r)
    simpa using this
/-- x.append(e) -/
theorem z_app (Ar : Arity G Φ) (C : Cxt G Φ n X S W) {p : Pl} {o x : Expr} {e : Ex} {nm : Str} {ap cp : Pos} (h1 : nm = "append") (hl : (ap.endLine == cp.line) = true) (hb : baseB o = true) (hp : agP G p S o = true) (he : agE G e S x = true) :
    PE X (.Call (.Attribute o nm ap) [x] [] cp) (tZc X.K G.toGi B W fun ρ μ => chgR G.cs Φ p ρ μ (fun μ => denE G.cs Φ e false ρ μ) appK nonK) := by
  subst h1
  have hd := agE_hd he
  have hf : ((backTo cp (starEach [x] X.env)).all (fun x => !x.1) && (backToKw cp (keywordEach [] X.env)).all (fun x => x.1.isSome)
      && decide ([x].length + ([] : List Keyword).length + (if ([] : List Keyword).isEmpty then 0 else 1) < 30)) = true := by
    have := form_ok (G := G) (es := .cons e .nil) (S := S) (xs := [x]) (env := X.env) (pos := cp) (by
      show (agE G e S x && true) = true
      rw [he]; rfl) (by show 1 < 29; decide)
    unfold methodCallForm at this
    exact this
  refine PE.imp (pe_bm PySem.F.plainAttrs_list PySem.F.slot_list_append PySem.F.type_list_append mt_append (zp (B := B) (W := W) (Φ := Φ) Ar C hp) (pa_cons (sE Ar e B false C he) pa_nil (star_ok hd)) (base_ok hb) hf hl (star_ok hd) rfl) fun σ H Q ⟨w, ρ, μ, Co, So, P⟩ => ?_
  · refine tPl_mono (place Co So P) fun x H1 ⟨ty, w1, μ1, _, C1, S1, A⟩ => ⟨ty, w1, ρ, μ1, C1, S1, ?_⟩
    refine Post.mono A fun d μ2 h v H2 w2 s2 C2 r2 => ?_
    obtain ⟨l, vs, xs, ys, dd, rfl, hl, rl, ek, er, kk⟩ := h H2 w2 s2 C2
    unfold appK at ek
    obtain ⟨hz, rfl⟩ := ite_some ek
    cases er
    exact ⟨l, vs, v, rfl, rfl, hl, by rw [rl.length]; exact of_decide_eq_true hz, kk .non _ rfl (rl.append ⟨v, [], rfl, r2, rfl⟩)⟩

def popA (G : Gs) (i : Oe) (S : SC) (xs : List Expr) : Bool := match i, xs with
  | .no, [] => true
  | .so e, [x] => agE G e S x
  | _, _ => false
def popB (G : Gs) (p : Pl) (i : Oe) (S : SC) (v : Expr) : Bool := match v with
  | .Call (.Attribute o nm ap) xs [] cp => nm == ("pop" : Str) && (ap.endLine == cp.line) && baseB o && agP G p S o && popA G i S xs
  | _ => false
/-- x.pop(), x.pop(i) -/
theorem z_pop (Ar : Arity G Φ) (C : Cxt G Φ n X S W) {p : Pl} {i : Oe} {v : Expr} (h : popB G p i S v = true) : PE X v (tZc X.K G.toGi B W fun ρ μ => chgR G.cs Φ p ρ μ (fun μ => denO G.cs Φ i ρ μ) popK popV) := by
  cases v with
  | Call f xs ks cp =>
    cases f with
    | Attribute o nm ap =>
      cases ks with
      | cons _ _ => cases h
      | nil =>
        have h' : (nm == ("pop" : Str) && (ap.endLine == cp.line) && baseB o && agP G p S o && popA G i S xs) = true := h
        obtain ⟨h1, hp, h2⟩ := and3 h'
        obtain ⟨h3, hl, hb⟩ := and3 h1
        have e0 : nm = "pop" := beq_iff_eq.mp h3
        subst e0
        cases i with
        | te t => cases xs <;> cases h2
        | no =>
          cases xs with
          | cons _ _ => cases h2
          | nil =>
            refine PE.imp (pe_bm0 PySem.F.plainAttrs_list PySem.F.slot_list_pop PySem.F.type_list_pop mt_pop (zp (B := B) (W := W) (Φ := Φ) Ar C hp) (base_ok hb) hl) fun σ H Q ⟨w, ρ, μ, Co, So, P⟩ => ?_
            refine tPl_mono (place Co So P) fun x H1 ⟨ty, w1, μ1, _, C1, S1, A⟩ => ⟨ty, ?_⟩
            obtain ⟨l, vs, xs, ys, d, rfl, hl, rl, ek, er, kk⟩ := (show ∀ H2 w2, Step H1 w1 H2 w2 → _ from A) H1 w1 (.refl _ _) C1
            unfold popK at ek
            unfold popV at er
            obtain ⟨j, e1, rfl⟩ := Option.map_eq_some_iff.mp ek
            rw [e1] at er
            obtain ⟨hz, rfl⟩ := ite_some e1
            obtain ⟨v, hv, rv⟩ := rl.get er
            rw [← rl.length] at hv
            refine ⟨l, vs, v, rfl, rfl, hl, hv, ?_⟩
            have := kk v (vs.eraseIdx (vs.length - 1)) rv (by rw [rl.length]; exact rl.eraseIdx _)
            rw [dropLast_eq] at this
            exact this
        | so e =>
          cases xs with
          | nil => cases h2
          | cons x xs =>
            cases xs with
            | cons _ _ => cases h2
            | nil =>
              have h2 : agE G e S x = true := h2
              have hd := agE_hd h2
              have hf : ((backTo cp (starEach [x] X.env)).all (fun x => !x.1) && (backToKw cp (keywordEach [] X.env)).all (fun x => x.1.isSome)
                  && decide ([x].length + ([] : List Keyword).length + (if ([] : List Keyword).isEmpty then 0 else 1) < 30)) = true := by
                have := form_ok (G := G) (es := .cons e .nil) (S := S) (xs := [x]) (env := X.env) (pos := cp) (by
                  show (agE G e S x && true) = true
                  rw [h2]; rfl) (by show 1 < 29; decide)
                unfold methodCallForm at this
                exact this
              refine PE.imp (pe_bm PySem.F.plainAttrs_list PySem.F.slot_list_pop PySem.F.type_list_pop mt_popAt (zp (B := B) (W := W) (Φ := Φ) Ar C hp) (pa_cons (sE Ar e B true C h2) pa_nil (star_ok hd)) (base_ok hb) hf hl (star_ok hd) rfl) fun σ H Q ⟨w, ρ, μ, Co, So, P⟩ => ?_
              refine tPl_mono (place Co So P) fun x H1 ⟨ty, w1, μ1, _, C1, S1, A⟩ => ⟨ty, w1, ρ, μ1, C1, S1, ?_⟩
              have A' : ArgP X.K G.toGi popK popV Q (WE W σ) x H1 w1 ((denE G.cs Φ e true ρ μ1).bind fun x μ => match x with
                | .int i => .ok (some i) μ
                | _ => .bad) := A
              refine Post.bind A' fun d μ2 _ P2 v H2 w2 s2 C2 r2 => ?_
              cases d with
              | int z =>
                cases (show v = V.int z from r2)
                obtain ⟨l, vs, xs, ys, d, rfl, hl, rl, ek, er, kk⟩ := P2 H2 w2 s2 C2
                unfold popK at ek
                unfold popV at er
                obtain ⟨j, e1, rfl⟩ := Option.map_eq_some_iff.mp ek
                rw [e1] at er
                have e1' : (if i63 z then seqIndex? z xs.length else none) = some j := e1
                cases hz : i63 z with
                | false => rw [hz] at e1'; cases e1'
                | true =>
                  rw [hz, if_pos rfl] at e1'
                  obtain ⟨u, hu, ru⟩ := rl.get er
                  exact ⟨l, vs, z, j, u, rfl, rfl, hl, i63_lo hz, i63_hi hz, by rw [rl.length]; exact e1', hu, kk u _ ru (rl.eraseIdx j)⟩
              | _ => exact P2.elim
    | _ => cases h
  | _ => cases h
/-- x.append(y.pop(i)), x an own list -/
theorem z_apo (Ar : Arity G Φ) (C : Cxt G Φ n X S W) {p : Pl} {i : Oe} {j : Nat} {x nm : Str} {v : Expr} {q ap cp : Pos} (h1 : nm = "append") (hl : (ap.endLine == cp.line) = true) (h2 : slotB S j x = true) (h3 : vis S x = true) (h4 : plainNm x = true) (h : popB G p i S v = true) :
    PE X (.Call (.Attribute (.Name x q) nm ap) [v] [] cp) (tZc X.K G.toGi B W fun ρ μ => match getOwn ρ j with
      | none => .bad
      | some _ => (chgR G.cs Φ p ρ μ (fun μ => denO G.cs Φ i ρ μ) popK popV).bind fun r μ => match getOwn r.2 j with
        | some zs => match appK zs r.1 with
          | some zs => .ok (.non, List.set r.2 j (.own zs)) μ
          | none => .bad
        | none => .bad) := by
  subst h1
  have hv : hdOk v = true := by
    cases v <;> first | rfl | cases h
  have hf : ((backTo cp (starEach [v] X.env)).all (fun x => !x.1) && (backToKw cp (keywordEach [] X.env)).all (fun x => x.1.isSome)
      && decide ([v].length + ([] : List Keyword).length + (if ([] : List Keyword).isEmpty then 0 else 1) < 30)) = true := by
    rw [star_ok hv]
    rfl
  unfold plainNm at h4
  simp only [Bool.and_eq_true, Bool.not_eq_true'] at h4
  refine PE.imp (pe_bm PySem.F.plainAttrs_list PySem.F.slot_list_append PySem.F.type_list_append mt_append (pe_var (i := j) (by rw [C.N]; exact slotB_ok h2) (vis_ok C h3) h4.1 h4.2) (pa_cons (z_pop (B := B) Ar C h) pa_nil (star_ok hv)) (base_ok (e := .Name x q) rfl) hf hl (star_ok hv) rfl) fun σ H Q ⟨w, ρ, μ, Co, So, P⟩ => ?_
  cases ej : getOwn ρ j with
  | none =>
    simp only [ej] at P
    exact P.elim
  | some zs0 =>
    simp only [ej] at P
    obtain ⟨a, vs, q1, q2, q3, q4, q5, q6⟩ := So.slot j _ (getOwn_of ej)
    refine ⟨.ref a, q1, .inl ⟨rfl, vs, SqL.of q2⟩, w, ρ, μ, Co, So, Post.bind P fun r μ1 _ P1 u H1 w1 l1 C1 S1 r1 => ?_⟩
    cases e2 : getOwn r.2 j with
    | none => simp only [e2] at P1; exact P1.elim
    | some zs =>
      simp only [e2] at P1
      cases e3 : appK zs r.1 with
      | none => simp only [e3] at P1; exact P1.elim
      | some ys =>
        simp only [e3] at P1
        unfold appK at e3
        obtain ⟨hz, rfl⟩ := ite_some e3
        obtain ⟨a', vs', k1, k2, k3, k4, k5, k6⟩ := S1.slot j _ (getOwn_of e2)
        rw [q1] at k1
        cases k1
        have rl := k3.append (show RepL X.K G.toGi w1 [r.1] [u] from ⟨u, [], rfl, r1, rfl⟩)
        exact ⟨a, vs', u, rfl, rfl, k2, by rw [k3.length]; exact of_decide_eq_true hz, P1 .non _ w1 l1 (C1.own k4 k5) (S1.upd (getOwn_of e2) q1 k2 rl) rfl⟩
end
end Z

/-! Z14: statements, one lemma each. -/
namespace Z
open PySem PySem.Spec PyProof.Rows L2

/-! ### which text a statement's IR stands for -/
def noComp : Expr → Bool
  | .ListComp _ _ _ _ => false
  | .SetComp _ _ _ _ => false
  | .DictComp _ _ _ _ _ => false
  | _ => true
def agR (G : Gs) (r : Rh) (S : SC) (x : Expr) : Bool := match r with
  | .e e => agE G e S x
  | .n n => agN G n S x
def isLoc (S : SC) (x : Str) : Bool := S.sc.names.lookup x == some .local
def parB (S : SC) (x y : Str) (px py : Pos) (a b : Expr) : Bool := isLoc S x && isLoc S y && (py.line == px.line) && !(x == y) && !(foldedForSure 8 a && foldedForSure 8 b) && !(constantsAlone 8 a && constantsAlone 8 b)
def unpB (v : Expr) : Bool := match v with
  | .Tuple vs _ _ => vs.all (foldedForSure 8)
  | v => noComp v
section
variable {G : Gs} {Φ : Phi} {n : Nat} {X : Cx} {S : SC} {W : WX} {B : Ent}
theorem sw_no {x : Expr} {t : Option Expr} {l : Nat} {env : Env} (h : noComp x = true) : swapsWith x t l env = pure false := by
  cases x <;> first | rfl | cases h
theorem sw_attr {x o : Expr} {f : Str} {p : Pos} {l : Nat} {env : Env} : swapsWith x (some (.Attribute o f p)) l env = pure false := by
  cases x <;> rfl
theorem sw_sub {x o i : Expr} {p : Pos} {l : Nat} {env : Env} : swapsWith x (some (.Subscript o i p)) l env = pure false := by
  cases x <;> rfl
theorem sw_false {elt : Expr} {gs : List Comprehension} {scope : Scope} {pos py : Pos} {y : Str} {l : Nat} {env : Env}
    (h : (env.scope.names.lookup y == some .local && py.line == pos.line && !(scope.names.any fun (n, k) => n == y && (k == .local || k == .cell))) = false) : swapsWith (.ListComp elt gs scope pos) (some (.Name y py)) l env = pure false := by
  have e1 : swapsWith (.ListComp elt gs scope pos) (some (.Name y py)) l env = pure (env.blockKind == .function && env.scope.names.lookup y == some .local && py.line == pos.line && !(scope.names.any fun (n, k) => n == y && (k == .local || k == .cell))) := by rfl
  rw [e1, Bool.and_assoc, Bool.and_assoc]
  rw [Bool.and_assoc] at h
  rw [h, Bool.and_false]
theorem agE_comp {e : Ex} {x : Expr} (h : agE G e S x = true) (hx : noComp x = false) : ∃ nn, (e = .new nn ∨ e = .cel nn) ∧ agN G nn S x = true := by
  cases e with
  | new nn => exact ⟨nn, .inl rfl, h⟩
  | cel nn => exact ⟨nn, .inr rfl, h⟩
  | _ => cases x <;> first | (cases hx; done) | (cases h; done)
theorem agN_comp {nn : Nw} {x : Expr} (h : agN G nn S x = true) (hx : noComp x = false) : ∃ ws elt t w c, nn = .cmp ws elt t w c := by
  cases nn with
  | cmp ws elt t w c => exact ⟨ws, elt, t, w, c, rfl⟩
  | _ => cases x <;> first | (cases hx; done) | (cases h; done)
/-! ### right-hand sides -/
theorem sR (Ar : Arity G Φ) (C : Cxt G Φ n X S W) {r : Rh} {x : Expr} (h : agR G r S x = true) : PE X x (tZr X.K G.toGi B W (denR G.cs Φ r)) := by
  cases r with
  | e e =>
    refine PE.imp (sE Ar e B false C h) fun σ H Q ⟨w, ρ, μ, Co, So, P⟩ => ⟨w, ρ, μ, Co, So, Post.bind P fun d μ1 _ P1 v H1 w1 s1 C1 r1 => P1 v H1 w1 s1 C1 r1⟩
  | n nn =>
    refine PE.imp (sN Ar nn B C h) fun σ H Q ⟨w, ρ, μ, Co, So, P⟩ => ⟨w, ρ, μ, Co, So, Post.bind P fun d μ1 _ P1 p H1 w1 s1 C1 f => P1 _ H1 w1 s1 C1 ⟨p, rfl, f⟩⟩
theorem rh_comp {r : Rh} {x : Expr} (h : agR G r S x = true) (hx : noComp x = false) : ∃ nn, agN G nn S x = true ∧ ∀ σ H Q, tZr X.K G.toGi B W (denR G.cs Φ r) σ H Q → zN G X B W (denN G.cs Φ nn) σ H Q := by
  cases r with
  | n nn => exact ⟨nn, h, fun σ H Q ⟨w, ρ, μ, Co, So, P⟩ => ⟨w, ρ, μ, Co, So, Post.bind P fun d μ1 _ P1 p H1 w1 s1 C1 f => P1 _ H1 w1 s1 C1 ⟨p, rfl, f⟩⟩⟩
  | e e =>
    obtain ⟨nn, he, hn⟩ := agE_comp (G := G) (S := S) h hx
    refine ⟨nn, hn, fun σ H Q ⟨w, ρ, μ, Co, So, P⟩ => ⟨w, ρ, μ, Co, So, ?_⟩⟩
    rcases he with rfl | rfl
    · have P' : PostR X.K G.toGi H w Q (WE W σ) (((denN G.cs Φ nn ρ μ).bind fun ds μ => R.ok (.lst ds) μ).bind fun d μ => .ok (.val d) μ) := P
      rw [R.bind_assoc] at P'
      refine Post.bind P' fun d μ1 _ P1 p H1 w1 s1 C1 f => ?_
      obtain ⟨w2, s2, C2, r2, _⟩ := f.froz s1 C1
      exact P1 _ H1 w2 s2 C2 r2
    · have P' : PostR X.K G.toGi H w Q (WE W σ) (((denN G.cs Φ nn ρ μ).bind fun ds μ => R.ok (.loc μ.length) (μ ++ [.lst ds])).bind fun d μ => .ok (.val d) μ) := P
      rw [R.bind_assoc] at P'
      refine Post.bind P' fun d μ1 _ P1 p H1 w1 s1 C1 f => ?_
      obtain ⟨w2, s2, C2, r2⟩ := f.cell s1 C1
      exact P1 _ H1 w2 s2 C2 r2
theorem Sok.slotV {K : PySem.W.Frag} {G : Gi} {H H1 : Hp} {w w1 : Wd} {σ : L2.St} {ρ ρ' : Rho} {i : Nat} {s : Slot} {v : V} (So : Sok K G B w H σ ρ) (e : Slot.set ρ i s = some ρ') (s1 : Step H w H1 w1) (sv : SlotV K G H w1 H1 v s) : Sok K G B w1 H1 (σ.set i (some v)) ρ' := by
  cases s with
  | emp => exact sv.elim
  | val d => exact (So.step s1).val e sv
  | own ds =>
    obtain ⟨p, rfl, f⟩ := sv
    obtain ⟨vs, h1, h2⟩ := f.at_
    refine (So.step s1).own e h1 h2 f.na f.nf (So.st.none f.new) fun j xs ej z => ?_
    obtain ⟨a, us, z1, z2, _⟩ := So.slot j _ ej
    rw [z1] at z
    cases z
    rw [f.new] at z2
    cases z2
/-! ### assignments -/
theorem nam_post {D : Ends} {σ : L2.St} {H : Hp} {i : Nat} {r : Rh} (h : tZS X.K G.toGi B W (denS G.cs Φ (.nam i r)) D σ H) : tZr X.K G.toGi B W (denR G.cs Φ r) σ H (fun v H1 => D.nx (σ.set i (some v)) H1) := by
  obtain ⟨w, ρ, μ, Co, So, P⟩ := h
  refine ⟨w, ρ, μ, Co, So, PostS.bindR P So fun s μ1 P1 v H1 w1 s1 C1 sv => ?_⟩
  cases e : Slot.set ρ i s with
  | none => rw [e] at P1; exact P1.elim
  | some ρ' =>
    rw [e] at P1
    exact P1 _ H1 w1 s1.le C1 (So.slotV e s1 sv)
theorem zs_nam (Ar : Arity G Φ) (C : Cxt G Φ n X S W) (hk : X.env.scope.kind = .function) {i : Nat} {r : Rh} {x : Str} {p pos : Pos} {e : Expr} (h1 : slotB S i x = true) (h2 : sto S x = true) (h : agR G r S e = true) :
    PS X (.Assign [.Name x p] e pos) (tZS X.K G.toGi B W (denS G.cs Φ (.nam i r))) := by
  have hi : X.N[i]? = some x := by rw [C.N]; exact slotB_ok h1
  have hx : Loc X.env.scope x := by rw [C.sc]; exact lookup_ok h2
  by_cases hc : noComp e = true
  · exact PS.imp (ps_set C.nd hi hx (sR Ar C h) (sw_no hc) (C.st x h2)) fun D σ H z => nam_post z
  · have hc : noComp e = false := by simpa using hc
    obtain ⟨nn, hn, imp⟩ := rh_comp (X := X) (B := B) (W := W) (Φ := Φ) h hc
    obtain ⟨ws, elt, t, w, c, rfl⟩ := agN_comp hn hc
    cases e with
    | ListComp el cl scope lp =>
      obtain ⟨tg, it, ifs, k, e1, h'⟩ : ∃ tg it ifs k, cl = [⟨tg, it, ifs, k⟩] ∧ (decide (k = 0) && blkC S.N S.sc scope (ownOf S ws) && t.slots.all ws.contains && agW G w S it tg && agG G t (inner S scope) tg && agC G c (inner S scope) ifs && agE G elt (inner S scope) el) = true := by
        match cl, hn with
        | [⟨tg, it, ifs, k⟩], h => exact ⟨tg, it, ifs, k, rfl, h⟩
        | [], h => cases h
        | ⟨_, _, _, _⟩ :: _ :: _, h => cases h
      subst e1
      obtain ⟨h1', h2', h3⟩ := and3 h'
      obtain ⟨h4, h5⟩ := and2 h1'
      obtain ⟨h6', h7, h8⟩ := and3 h4
      obtain ⟨h9, h6⟩ := and2 h6'
      have ek : k = 0 := of_decide_eq_true h9
      subst ek
      by_cases hs : (X.env.scope.names.lookup x == some .local && p.line == lp.line && !(scope.names.any fun (n, k) => n == x && (k == .local || k == .cell))) = true
      · obtain ⟨s1, s2, s3⟩ := and3 hs
        have pe : ∀ (s : Shared) (H : Hp) (Ca : Addr) (cl : List (Str × Addr)) (fp : List Addr), PE (X.blk s H scope (compEnvC scope cl Ca X.env) fp) el (tZ X.K G.toGi B (fun _ _ _ _ => False) false (denE G.cs Φ elt false)) := fun s H Ca cl fp => sE Ar elt B false (C.blk scope s H Ca cl fp) h3
        have pt : ∀ (s : Shared) (H : Hp) (Ca : Addr) (cl : List (Str × Addr)) (fp : List Addr), PTs (X.blk s H scope (compEnvC scope cl Ca X.env) fp) ifs (tZt X.K G.toGi B (fun _ _ _ _ => False) (denC G.cs Φ c)) := fun s H Ca cl fp => sC Ar c B (C.blk scope s H Ca cl fp) h2'
        have pg : ∀ (s : Shared) (H : Hp) (Ca : Addr) (cl : List (Str × Addr)) (fp : List Addr), PG (X.blk s H scope (compEnvC scope cl Ca X.env) fp) tg (gZ X.K G.toGi B t) := fun s H Ca cl fp => zg B (C.blk scope s H Ca cl fp) t h5
        refine PS.imp (ps_setLc (i := i) C.calm C.nd hi (beq_iff_eq.mp s1) (sw_true hk (beq_iff_eq.mp s1) s2 (by simpa using s3)) (sW Ar w B true C h8) (blkOk_by (own := ownOf S ws) (by rw [C.N, C.sc]; exact h6)) pg pt pe (folded_ok (agW_hd h8))) fun D σ H z => ?_
        have z1 := imp _ _ _ (nam_post z)
        exact lc_imp h7 z1
      · exact PS.imp (ps_set C.nd hi hx (sR Ar C h) (sw_false (by rw [Bool.eq_false_iff]; exact hs)) (C.st x h2)) fun D σ H z => nam_post z
    | SetComp _ _ _ _ => cases hn
    | DictComp _ _ _ _ _ => cases hn
    | _ => cases hc
theorem swapped_two {x y : Str} {px py pt pt2 : Pos} {kt k2 : Nat} {a b : Expr} {env : Env} (hk : env.scope.kind = .function) (hx : env.scope.names.lookup x = some .local) (hy : env.scope.names.lookup y = some .local) (hl : (py.line == px.line) = true) (hne : (x == y) = false)
    (ha : hdOk a = true) (hb : hdOk b = true) (hf : (foldedForSure 8 a && foldedForSure 8 b) = false) (hc : (constantsAlone 8 a && constantsAlone 8 b) = false) :
    swappedStores [.Tuple [.Name x px, .Name y py] kt pt] (.Tuple [a, b] k2 pt2) env = pure (some [x, y]) := by
  have bk : env.blockKind = .function := by unfold Env.blockKind; rw [hk]; rfl
  have kx : env.kindOf x = some .local := hx
  have ky : env.kindOf y = some .local := hy
  have st : ∀ e : Expr, hdOk e = true → (match e with
    | .Starred .. => true
    | _ => false) = false := fun e h => by cases e <;> first | rfl | cases h
  have hne' : (y == x) = false := by
    rw [Bool.eq_false_iff] at hne ⊢
    intro z
    exact hne (by rw [beq_iff_eq] at z ⊢; exact z.symm)
  have hl' : py.line = px.line := beq_iff_eq.mp hl
  have n1 : ¬ y = x := fun z => by rw [z] at hne'; simp at hne'
  unfold swappedStores
  simp [bk, kx, ky, hl', Expr.pos, List.eraseDups_cons, hne', hne, n1]
  rw [if_neg (by
    rintro (h | h)
    · cases a <;> first | (cases h; done) | (cases ha; done)
    · cases b <;> first | (cases h; done) | (cases hb; done))]
  rw [if_neg (by
    rintro ⟨h1, h2⟩
    rw [h1, h2] at hf
    cases hf), if_neg (by
    rintro ⟨h1, h2⟩
    rw [h1, h2] at hc
    cases hc)]

theorem swapped_not {tg v : Expr} {env : Env} (h : unpB v = true) : swappedStores [tg] v env = pure none := by
  cases v with
  | Tuple vs k p =>
    have h' : vs.all (foldedForSure 8) = true := h
    cases tg with
    | Tuple ts k2 p2 =>
      unfold swappedStores
      simp only [h']
      repeat' split
      all_goals first | rfl | simp_all
    | List ts p2 =>
      unfold swappedStores
      simp only [h']
      repeat' split
      all_goals first | rfl | simp_all
    | _ => rfl
  | _ => cases tg <;> rfl
/-- a target that is no local name: nothing is swapped -/
def mixB (S : SC) (tg v : Expr) : Bool := match tg, v with
  | .Tuple ts _ _, .Tuple _ _ _ => ts.any fun t => match t with
    | .Name x _ => !isLoc S x
    | _ => true
  | _, _ => false
theorem fm_lt {α β : Type} {f : α → Option β} : ∀ {l : List α}, (∃ t ∈ l, f t = none) → (l.filterMap f).length < l.length
  | [], ⟨t, h, _⟩ => by cases h
  | a :: l, ⟨t, h, e⟩ => by
    rcases List.mem_cons.mp h with rfl | h
    · rw [List.filterMap_cons, e]
      exact Nat.lt_succ_of_le (List.length_filterMap_le f l)
    · have := fm_lt ⟨t, h, e⟩
      rw [List.filterMap_cons]
      cases f a with
      | none => simp only [List.length_cons]; omega
      | some b => simp only [List.length_cons]; omega
theorem swapped_mix (C : Cxt G Φ n X S W) {tg v : Expr} (h : mixB S tg v = true) : swappedStores [tg] v X.env = pure none := by
  cases tg with
  | Tuple ts k2 p2 =>
    cases v with
    | Tuple vs k p =>
      obtain ⟨t, ht, e⟩ := List.any_eq_true.mp (show (ts.any fun t => match t with
        | .Name x _ => !isLoc S x
        | _ => true) = true from h)
      have hlt : ∀ line : Nat, (ts.filterMap fun t => match t with
          | .Name id pos => if X.env.kindOf id == some .local && pos.line == line then some id else none
          | _ => none).length < ts.length := fun line => fm_lt ⟨t, ht, by
        cases t with
        | Name x q =>
          have e' : isLoc S x = false := by simpa using e
          have ek : (X.env.kindOf x == some .local) = false := by
            unfold isLoc at e'
            rw [← C.sc] at e'
            exact e'
          show (if X.env.kindOf x == some .local && q.line == line then some x else none) = none
          rw [ek]; rfl
        | _ => rfl⟩
      have hne : ∀ line : Nat, ((ts.filterMap fun t => match t with
          | .Name id pos => if X.env.kindOf id == some .local && pos.line == line then some id else none
          | _ => none).length != ts.length) = true := fun line => by
        have := hlt line
        simp only [bne_iff_ne, ne_eq]
        omega
      unfold swappedStores
      simp only
      split
      · rfl
      · split
        · rfl
        · split
          · rfl
          · rename_i hx
            exact absurd (show _ = true by rw [Bool.or_eq_true]; exact .inl (hne _)) hx
    | _ => cases h
  | _ => cases h
theorem mixB_no {tg v : Expr} (h : mixB S tg v = true) : noComp v = true := by
  cases tg <;> cases v <;> first | rfl | cases h
theorem unpB_no {v : Expr} (h : unpB v = true) : noComp v = true := by
  cases v <;> first | rfl | cases h
end
end Z

/-! Z15: statements, one lemma each (stores, changes, loops). -/
namespace Z
open PySem PySem.Spec PyProof.Rows L2

section
variable {G : Gs} {Φ : Phi} {n : Nat} {X : Cx} {S : SC} {W : WX} {B : Ent}
abbrev zS (G : Gs) (Φ : Phi) (X : Cx) (B : Ent) (W : WX) (s : Sm) : TS := tZS X.K G.toGi B W (denS G.cs Φ s)
/-! two names at once -/
theorem zs_par (Ar : Arity G Φ) (C : Cxt G Φ n X S W) (hk : X.env.scope.kind = .function) {i j : Nat} {ra rb : Rh} {x y : Str} {px py pt pt2 pos : Pos} {kt k2 : Nat} {a b : Expr} (h1 : slotB S i x = true) (h2 : slotB S j y = true) (hp : parB S x y px py a b = true)
    (ha : agR G ra S a = true) (hb : agR G rb S b = true) (hda : hdOk a = true) (hdb : hdOk b = true) :
    PS X (.Assign [.Tuple [.Name x px, .Name y py] kt pt] (.Tuple [a, b] k2 pt2) pos) (zS G Φ X B W (.par i j ra rb)) := by
  have h' : (isLoc S x && isLoc S y && (py.line == px.line) && !(x == y) && !(foldedForSure 8 a && foldedForSure 8 b) && !(constantsAlone 8 a && constantsAlone 8 b)) = true := hp
  obtain ⟨k1, k2, k3⟩ := and3 h'
  obtain ⟨k4, k5, k6⟩ := and3 k1
  obtain ⟨k7, k8⟩ := and2 k4
  have hi : X.N[i]? = some x := by rw [C.N]; exact slotB_ok h1
  have hj : X.N[j]? = some y := by rw [C.N]; exact slotB_ok h2
  have ne : (x == y) = false := by simpa using k6
  have hij : i ≠ j := fun z => by
    subst z
    rw [hi] at hj
    cases hj
    simp at ne
  have lx : X.env.scope.names.lookup x = some .local := by rw [C.sc]; exact beq_iff_eq.mp k7
  have ly : X.env.scope.names.lookup y = some .local := by rw [C.sc]; exact beq_iff_eq.mp k8
  refine PS.imp (ps_par C.calm C.nd hi hj hij lx ly (pa_cons (sR (B := B) (W := W) Ar C ha) (pa_cons (sR (B := B) (W := W) Ar C hb) pa_nil (star_ok hdb)) (star_ok hda))
    (swapped_two hk lx ly k5 ne hda hdb (by cases hz : (foldedForSure 8 a && foldedForSure 8 b) with | true => (rw [hz] at k2; cases k2) | false => rfl) (by cases hz : (constantsAlone 8 a && constantsAlone 8 b) with | true => (rw [hz] at k3; cases k3) | false => rfl)) rfl) fun D σ H ⟨w, ρ, μ, Co, So, P⟩ => ?_
  refine ⟨w, ρ, μ, Co, So, PostS.bindR P So fun s μ1 P1 v H1 w1 s1 C1 sv => ⟨w1, ρ, μ1, C1, So.step s1, PostS.bindR (PostS.shift s1.le P1) (So.step s1) fun s' μ2 P2 u H2 w2 s2 C2 su => ⟨v, u, rfl, ?_⟩⟩⟩
  cases e : Slot.set ρ i s with
  | none => rw [e] at P2; exact P2.elim
  | some ρ1 =>
    rw [e] at P2
    cases e2 : Slot.set ρ1 j s' with
    | none => rw [show (some ρ1).bind (fun ρ => Slot.set ρ j s') = none from e2] at P2; exact P2.elim
    | some ρ2 =>
      rw [show (some ρ1).bind (fun ρ => Slot.set ρ j s') = some ρ2 from e2] at P2
      exact P2 _ H2 w2 s2.le C2 ((So.slotV e s1 sv).slotV e2 s2 su)
/-! any targets -/
theorem tg_one {t : Tg} {e : Expr} {env : Env} (h : agG G t S e = true) : (assignEach [e] env).map (·.2) = [assign e env] := by
  rw [tgt_ok h]; rfl
theorem zs_unp (Ar : Arity G Φ) (C : Cxt G Φ n X S W) {t : Tg} {e : Ex} {tg v : Expr} {pos : Pos} (h1 : unpB v = true ∨ mixB S tg v = true) (h2 : agG G t S tg = true) (h3 : agE G e S v = true) : PS X (.Assign [tg] v pos) (zS G Φ X B W (.unp t e)) := by
  refine PS.imp (ps_asg (sE Ar e B false C h3) (zg B C t h2) (sw_no (h1.elim unpB_no mixB_no)) (h1.elim swapped_not (swapped_mix C)) (tg_one h2)) fun D σ H ⟨w, ρ, μ, Co, So, P⟩ => ?_
  refine ⟨w, ρ, μ, Co, So, PostS.bindR P So fun d μ1 P1 v H1 w1 s1 C1 r1 => ?_⟩
  cases ep : t.put d ρ with
  | none => rw [ep] at P1; exact P1.elim
  | some ρ' =>
    rw [ep] at P1
    exact ⟨w1, ρ, μ1, d, ρ', C1, So.step s1, r1, ep, fun σ' S' _ => P1 σ' H1 w1 s1.le C1 S'⟩
/-! fields -/
theorem repF_put {K : PySem.W.Frag} {w : Wd} {f : Nat} {d : D} {v : V} (nm : G.nms.Nodup ∧ ("" : Str) ∉ G.nms) (hf : f < G.nms.length) (rv : Rep K G.toGi w d v) : ∀ {fs : List (Nat × D)} {vs : List (Str × V)}, RepF K G.toGi w fs vs → RepF K G.toGi w (putF f d fs) (L2.putF (G.nm f) v vs)
  | [], vs, r => by
    have e : vs = [] := r
    subst e
    exact ⟨v, [], rfl, rv, rfl⟩
  | (g, x) :: fs, vs, ⟨u, q, e, h1, h2⟩ => by
    subst e
    by_cases hg : f = g
    · subst hg
      have e1 : putF f d ((f, x) :: fs) = (f, d) :: fs := by unfold putF; rw [if_pos rfl]
      have e2 : L2.putF (G.nm f) v ((G.nm f, u) :: q) = (G.nm f, v) :: q := by unfold L2.putF; rw [if_pos rfl]
      rw [e1, e2]
      exact ⟨v, q, rfl, rv, h2⟩
    · have n1 : G.nm g ≠ G.nm f := fun z => by
        have := nm_ne nm hf hg
        rw [z] at this
        simp at this
      have e1 : putF f d ((g, x) :: fs) = (g, x) :: putF f d fs := by
        show (if f = g then _ else _) = _
        rw [if_neg hg]
      have e2 : L2.putF (G.nm f) v ((G.nm g, u) :: q) = (G.nm g, u) :: L2.putF (G.nm f) v q := by
        show (if G.nm g = G.nm f then _ else _) = _
        rw [if_neg n1]
      rw [e1, e2]
      exact ⟨u, L2.putF (G.nm f) v q, rfl, h1, repF_put nm hf rv h2⟩
theorem repF_len {K : PySem.W.Frag} {G : Gi} {w : Wd} : ∀ {fs : List (Nat × D)} {vs : List (Str × V)}, RepF K G w fs vs → vs.length = fs.length
  | [], _, e => by rw [show _ = [] from e]; rfl
  | _ :: fs, _, ⟨_, _, e, _, q⟩ => by rw [e, List.length_cons, List.length_cons, repF_len q]
theorem store_ask (C : Cxt G Φ n X S W) {f : Nat} {nm : Str} (h1 : nmB G f nm = true) {d x : D} {v u : V} {w : Wd} {H : Hp} {μ μ' : Mu} {σ : L2.St} {ρ : Rho} (Co : Cok X.K G.toGi w H μ) (So : Sok X.K G.toGi B w H σ ρ) (rv : Rep X.K G.toGi w d v) (ru : Rep X.K G.toGi w x u) (e : storeD G.cs f d μ x = some μ') {Q : Hp → Prop}
    (q : ∀ H', Cok X.K G.toGi w H' μ' → Sok X.K G.toGi B w H' σ ρ → Q H') :
    ∃ a Ca dx fs, u = .ref a ∧ H a = some (.ins Ca dx fs) ∧ Cls X.K Ca ∧ NoAttr X.K Ca nm ∧ fs.length < 1000 ∧ Q (upd H a (.ins Ca dx (L2.putF nm v fs))) := by
  obtain ⟨hf, hnm⟩ := nm_lt h1
  cases x with
  | loc k =>
    have e' : (match μ[k]? with
      | some (.obj c fs) => ite? ((fldOf G.cs c).contains f && decide (fs.length < 1000)) (μ.set k (.obj c (putF f d fs)))
      | _ => none) = some μ' := e
    cases ek : μ[k]? with
    | none => rw [ek] at e'; cases e'
    | some cl =>
      rw [ek] at e'
      cases cl with
      | lst _ => cases e'
      | obj c fs =>
        obtain ⟨hz, rfl⟩ := ite_some e'
        obtain ⟨z1, z2⟩ := and2 hz
        obtain ⟨a, rfl, ea⟩ := ru
        obtain ⟨dx, vs, ha, rf⟩ := Co.cel k a _ ea ek
        obtain ⟨ci, hci, hm⟩ : ∃ ci, G.cs[c]? = some ci ∧ f ∈ ci.fld := by
          unfold fldOf at z1
          cases z : G.cs[c]? with
          | none => rw [z] at z1; cases z1
          | some ci => rw [z] at z1; exact ⟨ci, rfl, List.contains_iff_mem.mp z1⟩
        have na := C.fac.noat c ci f hci hm
        rw [hnm] at na
        have rp := repF_put (G := G) C.fac.nmi hf rv rf
        rw [hnm] at rp
        exact ⟨a, _, dx, vs, rfl, ha, (C.fac.cls c ci hci).1, na, by rw [repF_len rf]; exact of_decide_eq_true z2, q _ (Co.wr ea ⟨dx, _, upd_same, rp⟩) (So.step (Step.wr ea ha))⟩
  | _ => cases e
theorem zs_att (Ar : Arity G Φ) (C : Cxt G Φ n X S W) {a e : Ex} {f : Nat} {o v : Expr} {nm : Str} {p pos : Pos} (h1 : nmB G f nm = true) (h2 : agE G a S o = true) (h3 : agE G e S v = true) : PS X (.Assign [.Attribute o nm p] v pos) (zS G Φ X B W (.att a f e)) := by
  refine PS.imp (ps_fld (sE Ar a B false C h2) (sE Ar e B false C h3) sw_attr) fun D σ H ⟨w, ρ, μ, Co, So, P⟩ => ?_
  refine ⟨w, ρ, μ, Co, So, PostS.bindR P So fun d μ1 P1 v H1 w1 s1 C1 r1 => ⟨w1, ρ, μ1, C1, So.step s1, PostS.bindR (PostS.shift s1.le P1) (So.step s1) fun x μ2 P2 u H2 w2 s2 C2 r2 => ?_⟩⟩
  cases e : storeD G.cs f d μ2 x with
  | none => rw [e] at P2; exact P2.elim
  | some μ3 =>
    rw [e] at P2
    exact store_ask C h1 C2 ((So.step s1).step s2) (Rep.le s2.le d r1) r2 e fun H' C' S' => P2 σ H' w2 s2.le C' S'
theorem zs_apt (Ar : Arity G Φ) (C : Cxt G Φ n X S W) {a : Ex} {i : Oe} {pl : Pl} {f : Nat} {o v : Expr} {nm : Str} {p pos : Pos} (h1 : nmB G f nm = true) (h2 : agE G a S o = true) (h3 : popB G pl i S v = true) : PS X (.Assign [.Attribute o nm p] v pos) (zS G Φ X B W (.apt a f pl i)) := by
  refine PS.imp (ps_fld (sE Ar a B false C h2) (z_pop (B := B) Ar C h3) sw_attr) fun D σ H ⟨w, ρ, μ, Co, So, P⟩ => ?_
  refine ⟨w, ρ, μ, Co, So, PostS.bindR P So fun r μ1 P1 v H1 w1 l1 C1 S1 r1 => ⟨w1, r.2, μ1, C1, S1, PostS.bindR (PostS.shift l1 P1) S1 fun x μ2 P2 u H2 w2 s2 C2 r2 => ?_⟩⟩
  cases e : storeD G.cs f r.1 μ2 x with
  | none => rw [e] at P2; exact P2.elim
  | some μ3 =>
    rw [e] at P2
    exact store_ask C h1 C2 (S1.step s2) (Rep.le s2.le _ r1) r2 e fun H' C' S' => P2 σ H' w2 s2.le C' S'
/-! items -/
theorem sub_asg {o k : Expr} {p : Pos} {env : Env} (h : notSl k = true) : ∀ v, assign (.Subscript o k p) env v = (do
      let ov ← holding [v] (eval o env)
      let iv ← holding [v, ov] (eval k env)
      standAt p
      holding [v, ov, iv] (setItem ov iv v)
      release [v, ov, iv] []) := by
  intro v
  cases k <;> first | rfl | cases h
theorem zs_sub (Ar : Arity G Φ) (C : Cxt G Φ n X S W) {pl : Pl} {i e : Ex} {o k v : Expr} {p pos : Pos} (h1 : agP G pl S o = true) (h2 : agE G i S k = true) (h3 : agE G e S v = true) (h4 : notSl k = true) : PS X (.Assign [.Subscript o k p] v pos) (zS G Φ X B W (.sub pl i e)) := by
  refine PS.imp (ps_asg (sE Ar e B false C h3) (pg_sub (zp (B := B) (W := W) (Φ := Φ) Ar C h1) (sE Ar i B true C h2) set_list (sub_asg h4)) (by show swapsWith v (some (.Subscript o k p)) pos.line X.env = pure false; exact sw_sub) (by cases v <;> rfl) (by rfl)) fun D σ H ⟨w, ρ, μ, Co, So, P⟩ => ?_
  refine ⟨w, ρ, μ, Co, So, PostS.bindR P So fun d μ1 P1 v H1 w1 s1 C1 r1 => ?_⟩
  have P2 : PostC X.K G.toGi B σ H1 w1 (fun _ H' => D.nx σ H') (WE W σ) (chgR G.cs Φ pl ρ μ1 (fun μ => (denE G.cs Φ i true ρ μ).bind fun y μ => .ok (d, y) μ) setK nonK) :=
    PostS.bindR (PostS.shift s1.le P1) (So.step s1) fun r μ2 P3 v H' w' l C' S' _ => P3 σ H' w' l C' S'
  refine tPl_mono (place C1 (So.step s1) P2) fun x H2 ⟨ty, w2, μ2, l2, C2, S2, A⟩ => ⟨w2, ρ, μ2, C2, S2, ?_⟩
  have A' : ArgP X.K G.toGi setK nonK (fun _ H' => D.nx σ H') (WE W σ) x H2 w2 ((denE G.cs Φ i true ρ μ2).bind fun y μ => .ok (d, y) μ) := A
  refine Post.bind A' fun y μ3 _ P3 u H3 w3 s3 C3 r3 => ?_
  obtain ⟨l, vs, xs, ys, dd, rfl, hl, rl, ek, er, kk⟩ := P3 H3 w3 s3 C3
  cases er
  cases y with
  | int z =>
    have ek' : (ixN xs.length z).map (fun j => xs.set j d) = some ys := ek
    obtain ⟨j, e1, rfl⟩ := Option.map_eq_some_iff.mp ek'
    exact ⟨l, vs, z, j, rfl, r3, hl, by rw [rl.length]; exact e1, kk .non _ rfl (RepL.set (Rep.le (l2.trans s3.le) d r1) j rl)⟩
  | _ => cases ek
/-- two items at once -/
theorem sub_one (Ar : Arity G Φ) (C : Cxt G Φ n X S W) {pl : Pl} {i : Ex} {k : Expr} (h2 : agE G i S k = true) {σ : L2.St} {H : Hp} {w : Wd} {ρ : Rho} {μ : Mu} {d : D} {v : V} {Q : Hp → Prop} (Co : Cok X.K G.toGi w H μ) (So : Sok X.K G.toGi B w H σ ρ) (r1 : Rep X.K G.toGi w d v)
    (P2 : PostC X.K G.toGi B σ H w (fun _ H' => Q H') (WE W σ) (chgR G.cs Φ pl ρ μ (fun μ => (denE G.cs Φ i true ρ μ).bind fun y μ => .ok (d, y) μ) setK nonK)) :
    gSub (tPl G Φ X B W pl) (zE G X B W true (denE G.cs Φ i true)) rSetL v σ H fun _ H' => Q H' := by
  refine tPl_mono (place Co So P2) fun x H2 ⟨ty, w2, μ2, l2, C2, S2, A⟩ => ⟨w2, ρ, μ2, C2, S2, ?_⟩
  have A' : ArgP X.K G.toGi setK nonK (fun _ H' => Q H') (WE W σ) x H2 w2 ((denE G.cs Φ i true ρ μ2).bind fun y μ => .ok (d, y) μ) := A
  refine Post.bind A' fun y μ3 _ P3 u H3 w3 s3 C3 r3 => ?_
  obtain ⟨l, vs, xs, ys, dd, rfl, hl, rl, ek, er, kk⟩ := P3 H3 w3 s3 C3
  cases er
  cases y with
  | int z =>
    have ek' : (ixN xs.length z).map (fun j => xs.set j d) = some ys := ek
    obtain ⟨j, e1, rfl⟩ := Option.map_eq_some_iff.mp ek'
    exact ⟨l, vs, z, j, rfl, r3, hl, by rw [rl.length]; exact e1, kk .non _ rfl (RepL.set (Rep.le (l2.trans s3.le) d r1) j rl)⟩
  | _ => cases ek
theorem zs_ups (Ar : Arity G Φ) (C : Cxt G Φ n X S W) {pl ql : Pl} {i j e : Ex} {o k o2 k2 v : Expr} {p p' tp pos : Pos} {kk : Nat} (h0 : unpB v = true) (h1 : agP G pl S o = true) (h2 : agE G i S k = true) (h1' : agP G ql S o2 = true) (h2' : agE G j S k2 = true) (h3 : agE G e S v = true) (h4 : notSl k = true) (h4' : notSl k2 = true) :
    PS X (.Assign [.Tuple [.Subscript o k p, .Subscript o2 k2 p'] kk tp] v pos) (zS G Φ X B W (.ups pl i ql j e)) := by
  refine PS.imp (ps_asg (sE Ar e B false C h3) (pg_tup C.calm (pgs_cons (pg_sub (zp (B := B) (W := W) (Φ := Φ) Ar C h1) (sE Ar i B true C h2) set_list (sub_asg h4)) (pgs_cons (pg_sub (zp (B := B) (W := W) (Φ := Φ) Ar C h1') (sE Ar j B true C h2') set_list (sub_asg h4')) pgs_nil)))
    (by rw [swapsWithSole]; exact sw_no (unpB_no h0)) (swapped_not h0) (by rfl)) fun D σ H ⟨w, ρ, μ, Co, So, P⟩ => ?_
  refine ⟨w, ρ, μ, Co, So, PostS.bindR P So fun d μ1 P1 v H1 w1 s1 C1 r1 => ?_⟩
  match d, P1, r1 with
  | .tup [d1, d2], P1, r1 =>
    obtain ⟨a, vs, rfl, hq, hr⟩ := r1
    obtain ⟨v1, r, rfl, q1, hr⟩ := hr
    obtain ⟨v2, r, rfl, q2, hr⟩ := hr
    cases (show r = [] from hr)
    refine ⟨a, _, rfl, SqT.of (C1.fz _ _ hq), rfl, v1, [v2], rfl, ?_⟩
    refine sub_one (Q := fun H' => gCons (gSub (tPl G Φ X B W ql) (zE G X B W true (denE G.cs Φ j true)) rSetL) gNil [v2] σ H' fun σ H => D.nx σ H) Ar C h2 C1 (So.step s1) q1 ?_
    refine PostS.bindR (PostS.shift s1.le P1) (So.step s1) fun r μ2 P3 v H' w' l C' S' _ => ?_
    refine ⟨v2, [], rfl, ?_⟩
    refine sub_one (Q := fun H' => gNil [] σ H' fun σ H => D.nx σ H) Ar C h2' C' S' (Rep.le l d2 q2) ?_
    exact PostS.bindR (PostS.shift l P3) S' fun r μ3 P4 v H'' w'' l' C'' S'' _ => ⟨rfl, P4 σ H'' w'' l' C'' S''⟩
/-! changes -/
theorem zs_app (Ar : Arity G Φ) (C : Cxt G Φ n X S W) {p : Pl} {o x : Expr} {e : Ex} {nm : Str} {ap cp pos : Pos} (h1 : nm = "append") (hl : (ap.endLine == cp.line) = true) (hb : baseB o = true) (hp : agP G p S o = true) (he : agE G e S x = true) :
    PS X (.Expr (.Call (.Attribute o nm ap) [x] [] cp) pos) (zS G Φ X B W (.app p e)) := by
  refine PS.imp (ps_expr (z_app (B := B) Ar C h1 hl hb hp he) rfl) fun D σ H ⟨w, ρ, μ, Co, So, P⟩ => ?_
  exact ⟨w, ρ, μ, Co, So, PostS.bindR P So fun r μ2 P3 v H' w' l C' S' _ => P3 σ H' w' l C' S'⟩
theorem popB_call {p : Pl} {i : Oe} {v : Expr} (h : popB G p i S v = true) : noComp v = true ∧ isTup v = false := by
  cases v <;> first | exact ⟨rfl, rfl⟩ | cases h
theorem unpB_of {v : Expr} (h1 : noComp v = true) (h2 : isTup v = false) : unpB v = true := by
  cases v <;> first | rfl | (cases h1; done) | (cases h2; done)
theorem zs_pop (Ar : Arity G Φ) (C : Cxt G Φ n X S W) {t : Tg} {p : Pl} {i : Oe} {tg v : Expr} {pos : Pos} (h2 : agG G t S tg = true) (h3 : popB G p i S v = true) : PS X (.Assign [tg] v pos) (zS G Φ X B W (.pop t p i)) := by
  obtain ⟨n1, n2⟩ := popB_call h3
  refine PS.imp (ps_asg (z_pop (B := B) Ar C h3) (zg B C t h2) (sw_no n1) (swapped_not (unpB_of n1 n2)) (tg_one h2)) fun D σ H ⟨w, ρ, μ, Co, So, P⟩ => ?_
  refine ⟨w, ρ, μ, Co, So, PostS.bindR P So fun r μ1 P1 v H1 w1 l1 C1 S1 r1 => ?_⟩
  cases ep : t.put r.1 r.2 with
  | none => rw [ep] at P1; exact P1.elim
  | some ρ' =>
    rw [ep] at P1
    exact ⟨w1, r.2, μ1, r.1, ρ', C1, S1, r1, ep, fun σ' S' _ => P1 σ' H1 w1 l1 C1 S'⟩
theorem zs_apo (Ar : Arity G Φ) (C : Cxt G Φ n X S W) {p : Pl} {i : Oe} {j : Nat} {x nm : Str} {v : Expr} {q ap cp pos : Pos} (h1 : nm = "append") (hl : (ap.endLine == cp.line) = true) (h2 : slotB S j x = true) (h3 : vis S x = true) (h4 : plainNm x = true) (h : popB G p i S v = true) :
    PS X (.Expr (.Call (.Attribute (.Name x q) nm ap) [v] [] cp) pos) (zS G Φ X B W (.apo j p i)) := by
  refine PS.imp (ps_expr (z_apo (B := B) Ar C h1 hl h2 h3 h4 h) rfl) fun D σ H ⟨w, ρ, μ, Co, So, P⟩ => ?_
  refine ⟨w, ρ, μ, Co, So, ?_⟩
  have P' : PostS X.K G.toGi B w D W (match getOwn ρ j with
    | none => .bad
    | some _ => RS.bindR ρ (chgR G.cs Φ p ρ μ (fun μ => denO G.cs Φ i ρ μ) popK popV) fun r μ => match getOwn r.2 j with
      | some zs => match appK zs r.1 with
        | some zs => .nx (List.set r.2 j (.own zs)) μ
        | none => .bad
      | none => .bad) := P
  cases ej : getOwn ρ j with
  | none => rw [ej] at P'; exact P'.elim
  | some _ =>
    rw [ej] at P'
    have e : (fun (r : Z.D × Rho) (μ : Mu) => RS.bindR ρ (match getOwn r.2 j with
        | some zs => match appK zs r.1 with
          | some zs => R.ok ((Z.D.non, List.set r.2 j (.own zs)) : Z.D × Rho) μ
          | none => .bad
        | none => .bad) fun r μ => RS.nx r.2 μ) = fun r μ => match getOwn r.2 j with
      | some zs => match appK zs r.1 with
        | some zs => .nx (List.set r.2 j (.own zs)) μ
        | none => .bad
      | none => .bad := by
      funext r μ
      cases getOwn r.2 j with
      | none => rfl
      | some zs =>
        show RS.bindR ρ (match appK zs r.1 with
          | some zs => R.ok ((Z.D.non, List.set r.2 j (.own zs)) : Z.D × Rho) μ
          | none => .bad) _ = match appK zs r.1 with
          | some zs => .nx (List.set r.2 j (.own zs)) μ
          | none => .bad
        cases appK zs r.1 <;> rfl
    have Q0 : PostC X.K G.toGi B σ H w (fun _ H1 => D.nx σ H1) (WE W σ) ((chgR G.cs Φ p ρ μ (fun μ => denO G.cs Φ i ρ μ) popK popV).bind fun r μ => match getOwn r.2 j with
        | some zs => match appK zs r.1 with
          | some zs => R.ok ((Z.D.non, List.set r.2 j (.own zs)) : Z.D × Rho) μ
          | none => .bad
        | none => .bad) := PostS.bindR (k := fun r μ => .nx r.2 μ) (by rw [bindR_bind, e]; exact P') So fun r μ2 P3 v H' w' l C' S' _ => P3 σ H' w' l C' S'
    simp only [ej]
    exact Q0
theorem zs_rpo (Ar : Arity G Φ) (C : Cxt G Φ n X S W) {p : Pl} {i : Oe} {v : Expr} {pos : Pos} (h3 : popB G p i S v = true) : PS X (.Return (some v) pos) (zS G Φ X B W (.rpo p i)) := by
  refine PS.imp (ps_ret (z_pop (B := B) Ar C h3)) fun D σ H ⟨w, ρ, μ, Co, So, P⟩ => ?_
  exact ⟨w, ρ, μ, Co, So, PostS.bindR P So fun r μ1 P1 v H1 w1 l1 C1 S1 r1 => P1 v H1 w1 S1.st C1 r1⟩
/-! small statements -/
theorem zs_exp (Ar : Arity G Φ) (C : Cxt G Φ n X S W) {e : Ex} {x : Expr} {pos : Pos} (h1 : noComp x = true) (h : agE G e S x = true) : PS X (.Expr x pos) (zS G Φ X B W (.exp e)) := by
  refine PS.imp (ps_expr (sE Ar e B true C h) (sw_no h1)) fun D σ H ⟨w, ρ, μ, Co, So, P⟩ => ?_
  exact ⟨w, ρ, μ, Co, So, PostS.bindR P So fun d μ1 P1 v H1 w1 s1 C1 r1 => P1 σ H1 w1 s1.le C1 (So.step s1)⟩
theorem zs_ret (Ar : Arity G Φ) (C : Cxt G Φ n X S W) {e : Ex} {x : Expr} {pos : Pos} (h : agE G e S x = true) : PS X (.Return (some x) pos) (zS G Φ X B W (.ret e)) := by
  refine PS.imp (ps_ret (sE Ar e B false C h)) fun D σ H ⟨w, ρ, μ, Co, So, P⟩ => ?_
  exact ⟨w, ρ, μ, Co, So, PostS.bindR P So fun d μ1 P1 v H1 w1 s1 C1 r1 => P1 v H1 w1 (So.st.trans s1) C1 r1⟩
theorem zs_retN {pos : Pos} : PS X (.Return none pos) (zS G Φ X B W .retN) :=
  PS.imp ps_retN fun D σ H ⟨w, ρ, μ, Co, So, P⟩ => P .non H w So.st Co rfl
theorem zs_pas {pos : Pos} : PS X (.Pass pos) (zS G Φ X B W .pas) := PS.imp ps_pass fun D σ H ⟨w, ρ, μ, Co, So, P⟩ => P σ H w (.refl w) Co So
theorem zs_doc {x j pos pos'} : PS X (.Expr (.Constant (.str x) j pos) pos') (zS G Φ X B W .pas) := PS.imp ps_doc fun D σ H ⟨w, ρ, μ, Co, So, P⟩ => P σ H w (.refl w) Co So
theorem zs_brk {pos : Pos} : PS X (.Break pos) (zS G Φ X B W .brk) := PS.imp ps_break fun D σ H ⟨w, ρ, μ, Co, So, P⟩ => P σ H w (.refl w) Co So
theorem zs_cnt {pos : Pos} : PS X (.Continue pos) (zS G Φ X B W .cnt) := PS.imp ps_continue fun D σ H ⟨w, ρ, μ, Co, So, P⟩ => P σ H w (.refl w) Co So
theorem zs_nev {st : Stmt} : PS X st (zS G Φ X B W .nev) := PS.imp ps_never fun D σ H ⟨w, ρ, μ, Co, So, P⟩ => P
/-! branches, loops -/
/-- what a turn of a loop is to reach -/
def LpN (K : PySem.W.Frag) (G : Gi) (B : Ent) (w : Wd) (D : Ends) (W : WX) (F : Rho → Mu → RS) (σ : L2.St) (H : Hp) : Prop := ∃ w1 ρ μ, w.le w1 ∧ Cok K G w1 H μ ∧ Sok K G B w1 H σ ρ ∧ PostS K G B w D W (F ρ μ)
theorem PostS.loop {K : PySem.W.Frag} {G : Gi} {w : Wd} {D : Ends} {F : Rho → Mu → RS} {r : RS} (P : PostS K G B w D W (match r with
    | .nx ρ μ => F ρ μ
    | .ct ρ μ => F ρ μ
    | .bk ρ μ => .nx ρ μ
    | r => r)) : PostS K G B w { D with nx := LpN K G B w D W F, ct := LpN K G B w D W F, bk := D.nx } W r := by
  cases r with
  | nx ρ μ => exact fun σ' H' w' l C S => ⟨w', ρ, μ, l, C, S, P⟩
  | ct ρ μ => exact fun σ' H' w' l C S => ⟨w', ρ, μ, l, C, S, P⟩
  | bk ρ μ => exact P
  | rt d μ => exact P
  | ex c a ρ μ => exact P
  | bad => exact P
theorem PostS.bindL {K : PySem.W.Frag} {G : Gi} {w0 w : Wd} {H : Hp} {σ : L2.St} {ρ : Rho} {D : Ends} {α : Type} {A : α → Mu → Prop} {r : R α} {k : α → Mu → RS} (P : PostS K G B w0 D W (RS.bindR ρ r k)) (l : w0.le w) (So : Sok K G B w H σ ρ) (h : ∀ a μ, PostS K G B w0 D W (k a μ) → A a μ) : Post A (ExP K G H w (WE W σ)) r := by
  cases r with
  | ok a μ => exact h a μ P
  | ex c a μ => exact fun cls dd H' w' s C x => P cls dd σ H' w' (l.trans s.le) C (So.step s) x
  | bad => exact P
abbrev zSs (G : Gs) (Φ : Phi) (X : Cx) (B : Ent) (W : WX) (b : Bk) : TS := tZS X.K G.toGi B W (denB G.cs Φ b)
theorem zs_ife (Ar : Arity G Φ) (C : Cxt G Φ n X S W) {t : Te} {a b : Bk} {x : Expr} {ss us : List Stmt} {pos : Pos} (h : agT G t S x = true) (ha : PSs X ss (zSs G Φ X B W a)) (hb : PSs X us (zSs G Φ X B W b)) : PS X (.If x ss us pos) (zS G Φ X B W (.ife t a b)) := by
  refine PS.imp (ps_if (sT Ar t B C h) ha hb) fun D σ H ⟨w, ρ, μ, Co, So, P⟩ => ?_
  refine ⟨w, ρ, μ, Co, So, PostS.bindR P So fun k μ1 P1 H1 w1 s1 C1 => ?_⟩
  cases k with
  | true => rw [if_pos rfl]; exact ⟨w1, ρ, μ1, C1, So.step s1, PostS.shift s1.le P1⟩
  | false => rw [if_neg (by simp)]; exact ⟨w1, ρ, μ1, C1, So.step s1, PostS.shift s1.le P1⟩
theorem zs_whl (Ar : Arity G Φ) (C : Cxt G Φ n X S W) (po : PassesOwn (model X.prog X.w) X.A X.env X.xe) {k : Nat} {t : Te} {b : Bk} {x : Expr} {ss : List Stmt} {pos : Pos} (h : agT G t S x = true) (hb : PSs X ss (zSs G Φ X B W b)) : PS X (.While x ss [] pos) (zS G Φ X B W (.whl k t b)) := by
  refine PS.imp (ps_while po (sT Ar t B C h) hb) fun D σ H ⟨w, ρ, μ, Co, So, P⟩ => ?_
  refine ⟨fun m σ H => LpN X.K G.toGi B w D W (whlGo (fun ρ μ => denT G.cs Φ t ρ μ) (fun ρ μ => denB G.cs Φ b ρ μ) m) σ H, ⟨k, w, ρ, μ, .refl w, Co, So, P⟩, ?_⟩
  rintro m σ H ⟨w1, ρ, μ, l1, C1, S1, P1⟩
  cases m with
  | zero => exact P1.elim
  | succ m =>
    refine ⟨w1, ρ, μ, C1, S1, PostS.bindL P1 l1 S1 fun k μ2 P2 H2 w2 s2 C2 => ?_⟩
    cases k with
    | false => rw [if_neg (by simp)]; exact P2 σ H2 w2 (l1.trans s2.le) C2 (S1.step s2)
    | true =>
      rw [if_pos rfl]
      exact ⟨LpN X.K G.toGi B w D W (whlGo (fun ρ μ => denT G.cs Φ t ρ μ) (fun ρ μ => denB G.cs Φ b ρ μ) m), fun σ' H' z => ⟨m, Nat.lt_succ_self m, z⟩, w2, ρ, μ2, C2, S1.step s2, PostS.shift (l1.trans s2.le) (PostS.loop P2)⟩
theorem zs_for (Ar : Arity G Φ) (C : Cxt G Φ n X S W) (po : PassesOwn (model X.prog X.w) X.A X.env X.xe) {t : Tg} {w : Wk} {b : Bk} {tg x : Expr} {ss : List Stmt} {pos : Pos} (h1 : agW G w S x tg = true) (h2 : agG G t S tg = true) (hb : PSs X ss (zSs G Φ X B W b)) : PS X (.For tg x ss [] pos) (zS G Φ X B W (.for t w b)) := by
  refine PS.imp (ps_for po C.calm (sW Ar w B false C h1) (zg B C t h2) hb (folded_ok (agW_hd h1))) fun D σ H ⟨w, ρ, μ, Co, So, P⟩ => ?_
  refine ⟨w, ρ, μ, Co, So, PostS.bindR P So fun xs μ1 P1 J H1 w1 s1 C1 wk => ?_⟩
  refine ⟨fun i m σ H => m = xs.length - i ∧ i ≤ xs.length ∧ LpN X.K G.toGi B w1 D W (forGo t.put (fun ρ μ => denB G.cs Φ b ρ μ) (xs.drop i)) σ H, ⟨xs.length, by simp, Nat.zero_le _, w1, ρ, μ1, .refl w1, C1, So.step s1, PostS.shift s1.le P1⟩, ?_⟩
  rintro i m σ H ⟨rfl, hi, w2, ρ, μ, l2, C2, S2, P2⟩
  by_cases hlt : i < xs.length
  · refine .inr ⟨wk.go i H w2 ⟨⟨μ, C2⟩, l2⟩ hlt, LpN X.K G.toGi B w1 D W (forGo t.put (fun ρ μ => denB G.cs Φ b ρ μ) (xs.drop (i + 1))), fun σ' H' p' => ⟨xs.length - (i + 1), by omega, rfl, hlt, p'⟩, fun x H' y => ?_⟩
    obtain ⟨w3, s3, C3, r3⟩ := wk.yl i H w2 μ x H' ⟨⟨μ, C2⟩, l2⟩ C2 y xs[i] (List.getElem?_eq_getElem hlt)
    rw [List.drop_eq_getElem_cons hlt] at P2
    have P3 : PostS X.K G.toGi B w1 D W (match t.put xs[i] ρ with
      | none => .bad
      | some ρ => match denB G.cs Φ b ρ μ with
        | .nx ρ μ => forGo t.put (fun ρ μ => denB G.cs Φ b ρ μ) (xs.drop (i + 1)) ρ μ
        | .ct ρ μ => forGo t.put (fun ρ μ => denB G.cs Φ b ρ μ) (xs.drop (i + 1)) ρ μ
        | .bk ρ μ => .nx ρ μ
        | r => r) := P2
    cases ep : t.put xs[i] ρ with
    | none => rw [ep] at P3; exact P3.elim
    | some ρ1 =>
      rw [ep] at P3
      exact ⟨w3, ρ, μ, xs[i], ρ1, C3, S2.step s3, r3, ep, fun σ' S' _ => ⟨w3, ρ1, μ, C3, S', PostS.shift (l2.trans s3.le) (PostS.loop P3)⟩⟩
  · have e : i = xs.length := by omega
    subst e
    rw [List.drop_length] at P2
    exact .inl ⟨wk.st H w2 ⟨⟨μ, C2⟩, l2⟩, P2 σ H w2 l2 C2 S2⟩
end
end Z

/-! Z16: the checker of statements, soundness; a whole module. -/
namespace Z
open PySem PySem.Spec PyProof.Rows L2

/-! ### binding -/
theorem zip_some : ∀ {ps : List Str} {us : List Value} {x : Str}, us.length = ps.length → x ∈ ps → ((ps.zip us).lookup x).isNone = false
  | [], _, _, _, h => by cases h
  | p :: ps, [], _, h, _ => by cases h
  | p :: ps, u :: us, x, h, hx => by
    rw [List.zip_cons_cons, List.lookup_cons]
    cases hb : x == p with
    | true => rfl
    | false =>
      rcases List.mem_cons.mp hx with e | hx
      · rw [e] at hb; simp at hb
      · exact zip_some (by simpa using h) hx
theorem zip_fm {f : Str → Option (Str × Value)} {g : Str → Option (Str × Value)} : ∀ {ps : List Str}, (∀ x ∈ ps, f x = g x) → ps.filterMap f = ps.filterMap g
  | [], _ => rfl
  | p :: ps, h => by
    rw [List.filterMap_cons, List.filterMap_cons, h p (List.mem_cons_self ..), zip_fm (ps := ps) fun x hx => h x (List.mem_cons_of_mem _ hx)]
theorem zip_lookup : ∀ {ps : List Str} {us : List Value}, ps.Nodup → us.length = ps.length → ps.filterMap (fun n => ((ps.zip us).lookup n).map (n, ·)) = ps.zip us
  | [], _, _, _ => rfl
  | p :: ps, [], _, h => by cases h
  | p :: ps, u :: us, nd, h => by
    obtain ⟨n1, n2⟩ := List.nodup_cons.mp nd
    rw [List.zip_cons_cons, List.filterMap_cons, List.lookup_cons]
    simp only [beq_self_eq_true, Option.map_some]
    rw [zip_fm (ps := ps) (g := fun n => ((ps.zip us).lookup n).map (n, ·)) fun x hx => ?_, zip_lookup n2 (by simpa using h)]
    have : (x == p) = false := by
      cases hb : x == p with
      | false => rfl
      | true => exact absurd hx (by rw [beq_iff_eq.mp hb]; exact n1)
    rw [List.lookup_cons, this]
theorem bind_all {x qual : Str} {params : Arguments} {body : List Stmt} {scope : Scope} {kV doc pm : Value} {an : Option Addr} {cdv ct : Value} {us : List Value} {ps : List Str} (h1 : params.posonlyargs = []) (h2 : params.args.map (·.arg) = ps) (h3 : params.vararg = none) (h4 : params.kwonlyargs = []) (h5 : params.kwarg = none)
    (nd : ps.Nodup) (hl : us.length = ps.length) : bindArgs (PySem.W.fnOf x qual params body scope .none kV doc pm an cdv ct) ⟨us, []⟩ = pure (ps.zip us) := by
  unfold bindArgs PySem.W.fnOf
  have e0 : seqItems? Value.none = pure none := rfl
  have e1 : ps.filter (fun n => ((ps.zip us).lookup n).isNone) = [] := List.filter_eq_nil_iff.mpr fun y hy => by rw [zip_some hl hy]; simp
  have e2 : (us.length > ps.length) = False := by simp; omega
  simp only [h1, h2, h3, h4, h5, List.map_nil, List.nil_append, List.append_nil, List.forIn_nil, pure_bind, e0, e2, Option.getD_none, List.drop_nil, List.length_nil, Nat.zero_sub, Nat.sub_zero, List.take_length, List.zip_nil_right, decide_false, Bool.false_and, e1, List.isEmpty_nil, Bool.not_true, Bool.false_eq_true, if_false]
  exact congrArg pure (zip_lookup nd hl)

/-! ### which text a statement stands for -/
def isFrz : Sm → Bool
  | .frz _ => true
  | _ => false
mutual
def agS (G : Gs) : Sm → SC → Stmt → Bool
  | .nam i r, S, .Assign [.Name x _] e _ => slotB S i x && sto S x && agR G r S e
  | .par i j a b, S, .Assign [.Tuple [.Name x px, .Name y py] _ _] (.Tuple [e, f] _ _) _ => slotB S i x && slotB S j y && parB S x y px py e f && agR G a S e && agR G b S f && hdOk e && hdOk f
  | .unp t e, S, .Assign [tg] v _ => (unpB v || mixB S tg v) && agG G t S tg && agE G e S v
  | .att a f e, S, .Assign [.Attribute o nm _] v _ => nmB G f nm && agE G a S o && agE G e S v
  | .sub p i e, S, .Assign [.Subscript o k _] v _ => agP G p S o && agE G i S k && agE G e S v && notSl k
  | .ups p i q j e, S, .Assign [.Tuple [.Subscript o k _, .Subscript o2 k2 _] _ _] v _ => unpB v && (agP G p S o && agE G i S k) && (agP G q S o2 && agE G j S k2) && (agE G e S v && (notSl k && notSl k2))
  | .app p e, S, .Expr (.Call (.Attribute o nm ap) [x] [] cp) _ => nm == ("append" : Str) && ap.endLine == cp.line && baseB o && agP G p S o && agE G e S x
  | .pop t p i, S, .Assign [tg] v _ => agG G t S tg && popB G p i S v
  | .apo j p i, S, .Expr (.Call (.Attribute (.Name x _) nm ap) [v] [] cp) _ => nm == ("append" : Str) && ap.endLine == cp.line && slotB S j x && vis S x && plainNm x && popB G p i S v
  | .apt a f p i, S, .Assign [.Attribute o nm _] v _ => nmB G f nm && agE G a S o && popB G p i S v
  | .rpo p i, S, .Return (some v) _ => popB G p i S v
  | .exp e, S, .Expr x _ => noComp x && agE G e S x
  | .ife t a b, S, .If x ss us _ => agT G t S x && agB G a S ss && agB G b S us
  | .whl _ t b, S, .While x ss [] _ => agT G t S x && agB G b S ss
  | .for t w b, S, .For tg it ss [] _ => agW G w S it tg && agG G t S tg && agB G b S ss
  | .ret e, S, .Return (some x) _ => agE G e S x
  | .retN, _, .Return none _ => true
  | .brk, _, .Break _ => true
  | .cnt, _, .Continue _ => true
  | .pas, _, .Pass _ => true
  | .pas, _, .Expr (.Constant (.str _) _ _) _ => true
  | .nev, _, _ => true
  | _, _, _ => false
def agB (G : Gs) : Bk → SC → List Stmt → Bool
  | .nil, _, [] => true
  | .cons s b, S, ss => match isFrz s with
    | true => agB G b S ss
    | false => match (generalizing := false) ss with
      | x :: ss => agS G s S x && agB G b S ss
      | [] => false
  | _, _, _ => false
end
section
variable {G : Gs} {Φ : Phi} {n : Nat} {X : Cx} {S : SC} {W : WX} {B : Ent}
theorem PostS.seq {K : PySem.W.Frag} {G : Gi} {w : Wd} {D : Ends} {r : RS} {k : Rho → Mu → RS} (P : PostS K G B w D W (r.seq k)) : PostS K G B w { D with nx := fun σ H => ∃ w1 ρ μ, Cok K G w1 H μ ∧ Sok K G B w1 H σ ρ ∧ PostS K G B w1 D W (k ρ μ) } W r := by
  cases r with
  | nx ρ μ => exact fun σ' H' w' l C S => ⟨w', ρ, μ, C, S, PostS.shift l P⟩
  | ct ρ μ => exact P
  | bk ρ μ => exact P
  | rt d μ => exact P
  | ex c a ρ μ => exact P
  | bad => exact P
mutual
theorem sS (Ar : Arity G Φ) (C : Cxt G Φ n X S W) (hk : X.env.scope.kind = .function) (po : PassesOwn (model X.prog X.w) X.A X.env X.xe) (B : Ent) : ∀ (s : Sm) {st : Stmt}, agS G s S st = true → PS X st (zS G Φ X B W s)
  | .nam i r, st, h => by
    cases st with
    | Assign ts e pos =>
      match ts, h with
      | [.Name x p], h =>
        obtain ⟨h1, h2, h3⟩ := and3 (show (slotB S i x && sto S x && agR G r S e) = true from h)
        exact zs_nam Ar C hk h1 h2 h3
    | _ => cases h
  | .par i j a b, st, h => by
    cases st with
    | Assign ts v pos =>
      match ts, v, h with
      | [.Tuple [.Name x px, .Name y py] _ _], .Tuple [e, f] _ _, h =>
        have h' : (slotB S i x && slotB S j y && parB S x y px py e f && agR G a S e && agR G b S f && hdOk e && hdOk f) = true := h
        obtain ⟨h1, h2, h3⟩ := and3 h'
        obtain ⟨h4, h5, h6⟩ := and3 h1
        obtain ⟨h7, h8, h9⟩ := and3 h4
        exact zs_par Ar C hk h7 h8 h9 h5 h6 h2 h3
    | _ => cases h
  | .unp t e, st, h => by
    cases st with
    | Assign ts v pos =>
      match ts, h with
      | [tg], h =>
        obtain ⟨h1, h2, h3⟩ := and3 (show ((unpB v || mixB S tg v) && agG G t S tg && agE G e S v) = true from h)
        exact zs_unp Ar C (by rw [Bool.or_eq_true] at h1; exact h1) h2 h3
    | _ => cases h
  | .att a f e, st, h => by
    cases st with
    | Assign ts v pos =>
      match ts, h with
      | [.Attribute o nm _], h =>
        obtain ⟨h1, h2, h3⟩ := and3 (show (nmB G f nm && agE G a S o && agE G e S v) = true from h)
        exact zs_att Ar C h1 h2 h3
    | _ => cases h
  | .sub p i e, st, h => by
    cases st with
    | Assign ts v pos =>
      match ts, h with
      | [.Subscript o k _], h =>
        have h' : (agP G p S o && agE G i S k && agE G e S v && notSl k) = true := h
        obtain ⟨h1, h2, h3⟩ := and3 h'
        obtain ⟨h4, h5⟩ := and2 h1
        exact zs_sub Ar C h4 h5 h2 h3
    | _ => cases h
  | .ups p i q j e, st, h => by
    cases st with
    | Assign ts v pos =>
      cases ts with
      | nil => cases h
      | cons t ts =>
        cases t with
        | Tuple es kk tp =>
          cases es with
          | nil => cases h
          | cons e1 es =>
            cases e1 with
            | Subscript o k p1 =>
              cases es with
              | nil => cases h
              | cons e2 es =>
                cases e2 with
                | Subscript o2 k2 p2 =>
                  cases es with
                  | cons _ _ => cases h
                  | nil =>
                    cases ts with
                    | cons _ _ => cases h
                    | nil =>
                      have h' : (unpB v && (agP G p S o && agE G i S k) && (agP G q S o2 && agE G j S k2) && (agE G e S v && (notSl k && notSl k2))) = true := h
                      obtain ⟨h1, h2, h3⟩ := and3 h'
                      obtain ⟨h4, h5⟩ := and2 h1
                      obtain ⟨a1, a2⟩ := and2 h5
                      obtain ⟨b1, b2⟩ := and2 h2
                      obtain ⟨c1, c2⟩ := and2 h3
                      obtain ⟨d1, d2⟩ := and2 c2
                      exact zs_ups Ar C h4 a1 a2 b1 b2 c1 d1 d2
                | _ => cases h
            | _ => cases h
        | _ => cases h
    | _ => cases h
  | .app p e, st, h => by
    cases st with
    | Expr v pos =>
      match v, h with
      | .Call (.Attribute o nm ap) [x] [] cp, h =>
        have h' : (nm == ("append" : Str) && ap.endLine == cp.line && baseB o && agP G p S o && agE G e S x) = true := h
        obtain ⟨h1, h2, h3⟩ := and3 h'
        obtain ⟨h4, h5, h6⟩ := and3 h1
        exact zs_app Ar C (beq_iff_eq.mp h4) h5 h6 h2 h3
    | _ => cases h
  | .pop t p i, st, h => by
    cases st with
    | Assign ts v pos =>
      match ts, h with
      | [tg], h =>
        obtain ⟨h1, h2⟩ := and2 (show (agG G t S tg && popB G p i S v) = true from h)
        exact zs_pop Ar C h1 h2
    | _ => cases h
  | .apo j p i, st, h => by
    cases st with
    | Expr v pos =>
      match v, h with
      | .Call (.Attribute (.Name x _) nm ap) [v] [] cp, h =>
        have h' : (nm == ("append" : Str) && ap.endLine == cp.line && slotB S j x && vis S x && plainNm x && popB G p i S v) = true := h
        obtain ⟨h1, h2, h3⟩ := and3 h'
        obtain ⟨h4, h5, h6⟩ := and3 h1
        obtain ⟨h7, h8⟩ := and2 h4
        exact zs_apo Ar C (beq_iff_eq.mp h7) h8 h5 h6 h2 h3
    | _ => cases h
  | .apt a f p i, st, h => by
    cases st with
    | Assign ts v pos =>
      match ts, h with
      | [.Attribute o nm _], h =>
        obtain ⟨h1, h2, h3⟩ := and3 (show (nmB G f nm && agE G a S o && popB G p i S v) = true from h)
        exact zs_apt Ar C h1 h2 h3
    | _ => cases h
  | .rpo p i, st, h => by
    cases st with
    | Return v pos =>
      cases v with
      | some v => exact zs_rpo Ar C h
      | none => cases h
    | _ => cases h
  | .exp e, st, h => by
    cases st with
    | Expr v pos =>
      obtain ⟨h1, h2⟩ := and2 (show (noComp v && agE G e S v) = true from h)
      exact zs_exp Ar C h1 h2
    | _ => cases h
  | .ife t a b, st, h => by
    cases st with
    | If x ss us pos =>
      obtain ⟨h1, h2, h3⟩ := and3 (show (agT G t S x && agB G a S ss && agB G b S us) = true from h)
      exact zs_ife Ar C h1 (sB Ar C hk po B a h2) (sB Ar C hk po B b h3)
    | _ => cases h
  | .whl k t b, st, h => by
    cases st with
    | While x ss os pos =>
      cases os with
      | cons _ _ => cases h
      | nil =>
        obtain ⟨h1, h2⟩ := and2 (show (agT G t S x && agB G b S ss) = true from h)
        exact zs_whl Ar C po h1 (sB Ar C hk po B b h2)
    | _ => cases h
  | .for t w b, st, h => by
    cases st with
    | For tg it ss os pos =>
      cases os with
      | cons _ _ => cases h
      | nil =>
        obtain ⟨h1, h2, h3⟩ := and3 (show (agW G w S it tg && agG G t S tg && agB G b S ss) = true from h)
        exact zs_for Ar C po h1 h2 (sB Ar C hk po B b h3)
    | _ => cases h
  | .ret e, st, h => by
    cases st with
    | Return v pos =>
      cases v with
      | some v => exact zs_ret Ar C h
      | none => cases h
    | _ => cases h
  | .retN, st, h => by
    cases st with
    | Return v pos =>
      cases v with
      | some v => cases h
      | none => exact zs_retN
    | _ => cases h
  | .brk, st, h => by
    cases st with
    | Break pos => exact zs_brk
    | _ => cases h
  | .cnt, st, h => by
    cases st with
    | Continue pos => exact zs_cnt
    | _ => cases h
  | .pas, st, h => by
    cases st with
    | Pass pos => exact zs_pas
    | Expr v pos =>
      cases v with
      | Constant c j p =>
        cases c with
        | str x => exact zs_doc
        | _ => cases h
      | _ => cases h
    | _ => cases h
  | .nev, st, h => zs_nev
  | .frz i, st, h => by cases st <;> cases h
theorem sB (Ar : Arity G Φ) (C : Cxt G Φ n X S W) (hk : X.env.scope.kind = .function) (po : PassesOwn (model X.prog X.w) X.A X.env X.xe) (B : Ent) : ∀ (b : Bk) {ss : List Stmt}, agB G b S ss = true → PSs X ss (zSs G Φ X B W b)
  | .nil, ss, h => by
    cases ss with
    | nil => exact PSs.imp pss_nil fun D σ H ⟨w, ρ, μ, Co, So, P⟩ => P σ H w (.refl w) Co So
    | cons _ _ => cases h
  | .cons s b, ss, h => by
    have h' : (match isFrz s with
      | true => agB G b S ss
      | false => match (generalizing := false) ss with
        | x :: ss => agS G s S x && agB G b S ss
        | [] => false) = true := h
    cases hf : isFrz s with
    | true =>
      rw [hf] at h'
      cases s with
      | frz i =>
        refine PSs.imp (sB Ar C hk po B b h') fun D σ H ⟨w, ρ, μ, Co, So, P⟩ => ?_
        have P' : PostS X.K G.toGi B w D W ((match getOwn ρ i with
          | some xs => RS.nx (List.set ρ i (.val (.lst xs))) μ
          | none => .bad).seq fun ρ μ => denB G.cs Φ b ρ μ) := P
        cases e : getOwn ρ i with
        | none => rw [e] at P'; exact P'.elim
        | some xs =>
          rw [e] at P'
          obtain ⟨w', l, C', S'⟩ := So.frz Co (getOwn_of e)
          exact ⟨w', _, μ, C', S', PostS.shift l P'⟩
      | _ => cases hf
    | false =>
      rw [hf] at h'
      cases ss with
      | nil => cases h'
      | cons x ss =>
        obtain ⟨h1, h2⟩ := and2 (show (agS G s S x && agB G b S ss) = true from h')
        exact PSs.imp (pss_cons (sS Ar C hk po B s h1) (sB Ar C hk po B b h2)) fun D σ H ⟨w, ρ, μ, Co, So, P⟩ => ⟨w, ρ, μ, Co, So, PostS.seq P⟩
end
end
end Z

/-! Z17: a module whose defs are what their IR means. -/
namespace Z
open PySem PySem.Spec PyProof.Rows L2

def fbs (G : Gi) : List FB := G.fns.map fun fi => ⟨fi.ir, fi.N.length, fi.ps.length⟩
def bodyS (fi : FI) : SC := ⟨fi.N, fi.d.scope, true, []⟩
def isFun (k : ScopeKind) : Bool := match k with
  | .function => true
  | _ => false
theorem isFun_ok {k : ScopeKind} (h : isFun k = true) : k = .function := by
  cases k <;> first | rfl | cases h
/-- a def's scope, parameters -/
def scopeB (fi : FI) : Bool := isFun fi.d.scope.kind && !fi.d.scope.isCoroutine && !fi.d.scope.isGenerator && decide fi.N.Nodup && decide (fi.N.take fi.ps.length = fi.ps) &&
  (fi.ps.all fun x => fi.d.scope.names.lookup x == some .local || fi.d.scope.names.lookup x == some .cell) && fi.d.scope.names.all fun y => !(y.2 == .free)
def parsB (fi : FI) : Bool := fi.d.params.posonlyargs.isEmpty && decide (fi.d.params.args.map (·.arg) = fi.ps) && fi.d.params.vararg.isNone && fi.d.params.kwonlyargs.isEmpty && fi.d.params.kwarg.isNone && fi.d.dfl.isEmpty
theorem scopeB_ok {fi : FI} (h : scopeB fi = true) : FnScope fi.N fi.ps fi.d.scope := by
  unfold scopeB at h
  simp only [Bool.and_eq_true, Bool.not_eq_true', decide_eq_true_eq, List.all_eq_true, Bool.or_eq_true, beq_iff_eq] at h
  obtain ⟨⟨⟨⟨⟨⟨h1, h2⟩, h3⟩, h4⟩, h5⟩, h6⟩, h7⟩ := h
  exact ⟨isFun_ok h1, h2, h3, h4, h5, h6, fun y hy z => by
    have := h7 y hy
    rw [z] at this
    revert this
    decide⟩
/-- an __init__ that only stores its arguments, in order -/
def frzGo (G : Gs) (S : SC) : List Stmt → List Nat → Nat → Bool
  | [], [], _ => true
  | .Assign [.Attribute (.Name s _) nm _] (.Name p _) _ :: r, f :: fl, i => slotB S 0 s && vis S s && plainNm s && slotB S i p && vis S p && plainNm p && nmB G f nm && frzGo G S r fl (i + 1)
  | _, _, _ => false
def clsOk (G : Gs) (ci : CI) : Bool := (match G.fns[ci.ini]? with
    | some fi => decide (fi.d.at_ = (G.nm ci.nm, some ("__init__" : Str))) && (!ci.frz || (frzGo G (bodyS fi) fi.d.body ci.fld 1 && decide (fi.ps.length = ci.fld.length + 1)))
    | none => false) &&
  (ci.mts.all fun p => match G.fns[p.2]? with
    | some fi => decide (fi.d.at_ = (G.nm ci.nm, some (G.nm p.1)))
    | none => false) && decide ci.fld.Nodup && decide (ci.fld.length < 900) && ci.fld.all fun f => decide (f < G.nms.length)
def fiOk (G : Gs) (fi : FI) : Bool := scopeB fi && parsB fi && agB G fi.ir (bodyS fi) fi.d.body
def conOk (p : Str × D) : Bool := match p.2 with
  | .int _ => true
  | .str _ => true
  | _ => false
def wfB (G : Gs) : Bool := G.fns.all (fiOk G) && G.cs.all (clsOk G) && decide G.nms.Nodup && !G.nms.contains ("" : Str) && G.con.all conOk
/-! ### the facts of the head -/
def conFa (p : Str × D) : He.Fa := match p.2 with
  | .int i => .int p.1 i
  | .str z => .str p.1 z
  | _ => .glo p.1
def faOf (G : Gs) : List He.Fa := G.fns.map (fun fi => .glo fi.d.at_.1) ++ (G.cs.map fun ci => He.Fa.cls (G.nm ci.nm)) ++ (G.cs.map fun ci => He.Fa.glo (G.nm ci.nm)) ++ (G.cs.map fun ci => He.Fa.mkr (G.nm ci.nm)) ++
  (G.cs.flatMap fun ci => ci.mts.map fun p => He.Fa.meth (G.nm ci.nm) (G.nm p.1)) ++ (G.cs.flatMap fun ci => ci.fld.map fun f => He.Fa.noat (G.nm ci.nm) (G.nm f)) ++ G.free.map He.Fa.free ++ G.con.map conFa
def fnOf (G : Gi) : List He.DefD := G.fns.map (·.d)
theorem fnOf_get {G : Gi} {f : Nat} {fi : FI} (h : G.fns[f]? = some fi) : (fnOf G)[f]? = some fi.d := by
  unfold fnOf
  rw [List.getElem?_map, h]
  rfl
theorem says_mem {fa : List He.Fa} {fn : List He.DefD} {K : PySem.W.Frag} (c : He.SaysD fa fn K) {x : He.Fa} (h : x ∈ fa) : x.ok K = true := by
  obtain ⟨i, hi⟩ := List.getElem?_of_mem h
  exact He.SaysD.fact c i hi
theorem clsN_of {G : Gi} {c : Nat} {ci : CI} (h : G.cs[c]? = some ci) : clsN G c = G.nm ci.nm := by
  unfold clsN
  rw [h]
theorem fac_of {G : Gs} (wf : wfB G = true) {K : PySem.W.Frag} {h : Heap} {mg : Str → Option Value} (X : K.In h) (N : h.Ns mainGlobals mg) (c : He.SaysD (faOf G) (fnOf G.toGi) K) : Fac G K mg := by
  unfold wfB at wf
  simp only [Bool.and_eq_true, Bool.not_eq_true', decide_eq_true_eq, List.all_eq_true] at wf
  obtain ⟨⟨⟨⟨w1, w2⟩, w3⟩, w4⟩, w5⟩ := wf
  have cl : ∀ (i : Nat) (ci : CI), G.cs[i]? = some ci → ci ∈ G.cs := fun i ci e => List.mem_of_getElem? e
  refine ⟨fun f fi x e1 e2 => ?_, fun i ci e => ?_, fun i ci m f e hm => ?_, fun i ci f e hf => ?_, fun x hx => ?_, fun x d hx => ?_, w3, fun z => ?_⟩
  · have m : He.Fa.glo fi.d.at_.1 ∈ faOf G := by
      unfold faOf
      simp only [List.mem_append]
      iterate 7 left
      exact List.mem_map.mpr ⟨fi, List.mem_of_getElem? e1, rfl⟩
    have := He.glo_ok X N (says_mem c m)
    rw [e2] at this ⊢
    exact this
  · have hn := clsN_of (G := G.toGi) e
    have m1 : He.Fa.cls (G.nm ci.nm) ∈ faOf G := by
      unfold faOf
      simp only [List.mem_append]
      iterate 6 left
      right
      exact List.mem_map.mpr ⟨ci, cl i ci e, rfl⟩
    have m2 : He.Fa.glo (G.nm ci.nm) ∈ faOf G := by
      unfold faOf
      simp only [List.mem_append]
      iterate 5 left
      right
      exact List.mem_map.mpr ⟨ci, cl i ci e, rfl⟩
    have m3 : He.Fa.mkr (G.nm ci.nm) ∈ faOf G := by
      unfold faOf
      simp only [List.mem_append]
      iterate 4 left
      right
      exact List.mem_map.mpr ⟨ci, cl i ci e, rfl⟩
    unfold clsA
    rw [hn]
    refine ⟨He.cls_ok (says_mem c m1), He.glo_ok X N (says_mem c m2), ?_⟩
    have hc := w2 ci (cl i ci e)
    unfold clsOk at hc
    simp only [Bool.and_eq_true] at hc
    obtain ⟨⟨⟨⟨h1, _⟩, _⟩, _⟩, _⟩ := hc
    cases e3 : G.fns[ci.ini]? with
    | none => rw [e3] at h1; cases h1
    | some fi =>
      rw [e3] at h1
      obtain ⟨h1, _⟩ := and2 h1
      have ea : fi.d.at_ = (G.nm ci.nm, some ("__init__" : Str)) := of_decide_eq_true h1
      refine ⟨fi, rfl, ?_⟩
      rw [ea]
      exact He.mkr_ok (says_mem c m3)
  · have hn := clsN_of (G := G.toGi) e
    have m1 : He.Fa.meth (G.nm ci.nm) (G.nm m) ∈ faOf G := by
      unfold faOf
      simp only [List.mem_append]
      iterate 3 left
      right
      exact List.mem_flatMap.mpr ⟨ci, cl i ci e, List.mem_map.mpr ⟨(m, f), hm, rfl⟩⟩
    have hc := w2 ci (cl i ci e)
    unfold clsOk at hc
    simp only [Bool.and_eq_true, List.all_eq_true] at hc
    obtain ⟨⟨⟨⟨_, h2⟩, _⟩, _⟩, _⟩ := hc
    have h3 := h2 (m, f) hm
    cases e3 : G.fns[f]? with
    | none => rw [show G.fns[(m, f).2]? = none from e3] at h3; cases h3
    | some fi =>
      rw [show G.fns[(m, f).2]? = some fi from e3] at h3
      have ea : fi.d.at_ = (G.nm ci.nm, some (G.nm m)) := of_decide_eq_true h3
      refine ⟨fi, rfl, ?_⟩
      unfold clsA
      rw [hn, ea]
      exact He.meth_ok (says_mem c m1)
  · have hn := clsN_of (G := G.toGi) e
    have m1 : He.Fa.noat (G.nm ci.nm) (G.nm f) ∈ faOf G := by
      unfold faOf
      simp only [List.mem_append]
      iterate 2 left
      right
      exact List.mem_flatMap.mpr ⟨ci, cl i ci e, List.mem_map.mpr ⟨f, hf, rfl⟩⟩
    unfold clsA
    rw [hn]
    exact He.noat_ok (says_mem c m1)
  · have m1 : He.Fa.free x ∈ faOf G := by
      unfold faOf
      simp only [List.mem_append]
      left
      right
      exact List.mem_map.mpr ⟨x, hx, rfl⟩
    exact He.free_ok X N (says_mem c m1)
  · have m1 : conFa (x, d) ∈ faOf G := by
      unfold faOf
      simp only [List.mem_append]
      right
      exact List.mem_map.mpr ⟨(x, d), hx, rfl⟩
    have hc := w5 (x, d) hx
    cases d with
    | int i =>
      obtain ⟨t, ht⟩ := He.int_ok X N (says_mem c (x := .int x i) m1)
      exact ⟨_, .int i, ht, ⟨t, rfl⟩, i, .inl ⟨rfl, rfl⟩⟩
    | str z =>
      obtain ⟨t, ht⟩ := He.str_ok X N (says_mem c (x := .str x z) m1)
      exact ⟨_, .str z, ht, ⟨t, rfl⟩, 0, .inr ⟨z, rfl, rfl⟩⟩
    | _ => cases hc
  · rw [List.contains_iff_mem.mpr z] at w4
    cases w4
/-! ### frozen classes -/
theorem upd_id {H : Hp} {a : Addr} {o : HO} (h : H a = some o) : upd H a o = H := by
  funext b
  by_cases hb : b = a
  · subst hb; rw [upd_same, h]
  · rw [upd_ne hb]
theorem putF_new {x : Str} {v : V} : ∀ {fs : List (Str × V)}, x ∉ fs.map (·.1) → L2.putF x v fs = fs ++ [(x, v)]
  | [], _ => rfl
  | (g, u) :: r, h => by
    have h1 : ¬ g = x := fun z => h (by rw [z]; simp)
    unfold L2.putF
    rw [if_neg h1, putF_new fun z => h (by simp only [List.map_cons]; exact List.mem_cons_of_mem _ z)]
    rfl
theorem frz_body {G : Gs} {X : Cx} {S : SC} {Ca : Addr} (hN : X.N = S.N) (hsc : X.env.scope = S.sc) (cl : Cls X.K Ca) : ∀ (body : List Stmt) (fl : List Nat) (i : Nat), frzGo G S body fl i = true → fl.Nodup → (∀ f ∈ fl, f < G.nms.length) → G.nms.Nodup ∧ ("" : Str) ∉ G.nms → (∀ f ∈ fl, NoAttr X.K Ca (G.nm f)) →
    PSs X body fun D σ H => ∃ x dx fs us, σ[0]? = some (some (.ref x)) ∧ (∀ (j : Nat) (u : V), us[j]? = some u → σ[i + j]? = some (some u)) ∧ us.length = fl.length ∧ H x = some (.ins Ca dx fs) ∧ (∀ f ∈ fl, G.nm f ∉ fs.map (·.1)) ∧ fs.length + fl.length < 1000 ∧ D.nx σ (upd H x (.ins Ca dx (fs ++ (fl.map G.nm).zip us)))
  | [], [], i, h, nd, hl, nm, na => PSs.imp pss_nil fun D σ H ⟨x, dx, fs, us, h0, h1, h2, h3, h4, h5, h6⟩ => by
    have h6' : D.nx σ (upd H x (.ins Ca dx (fs ++ []))) := h6
    rw [List.append_nil, upd_id h3] at h6'
    exact h6'
  | [], _ :: _, i, h, nd, hl, nm, na => by cases h
  | st :: r, [], i, h, nd, hl, nm, na => by
    cases st with
    | Assign ts v p4 =>
      cases ts with
      | nil => cases h
      | cons t ts =>
        cases t with
        | Attribute o nm' p2 =>
          cases o with
          | Name s p1 =>
            cases ts with
            | cons _ _ => cases h
            | nil =>
              cases v with
              | Name p p3 => cases h
              | _ => cases h
          | _ => cases h
        | _ => cases h
    | _ => cases h
  | st :: r, f :: fl', i, h, nd, hl, nm, na => by
    obtain ⟨s, p1, nm', p2, p, p3, p4, rfl, h'⟩ : ∃ s p1 nm' p2 p p3 p4, st = .Assign [.Attribute (.Name s p1) nm' p2] (.Name p p3) p4 ∧ (slotB S 0 s && vis S s && plainNm s && slotB S i p && vis S p && plainNm p && nmB G f nm' && frzGo G S r fl' (i + 1)) = true := by
      cases st with
      | Assign ts v p4 =>
        cases ts with
        | nil => cases h
        | cons t ts =>
          cases t with
          | Attribute o nm' p2 =>
            cases o with
            | Name s p1 =>
              cases ts with
              | cons _ _ => cases h
              | nil =>
                cases v with
                | Name p p3 => exact ⟨s, p1, nm', p2, p, p3, p4, rfl, h⟩
                | _ => cases h
            | _ => cases h
          | _ => cases h
      | _ => cases h
    obtain ⟨h1, h2, h3⟩ := and3 h'
    obtain ⟨h4, h5, h6⟩ := and3 h1
    obtain ⟨h7, h8, h9⟩ := and3 h4
    obtain ⟨k1, k2⟩ := and2 h7
    obtain ⟨hf, hnm⟩ := nm_lt h2
    have vs : ∀ {x : Str}, vis S x = true → Vis X.env.scope x := fun {x} h => by
      rw [hsc]
      unfold vis at h
      split at h
      · rename_i e; exact .inl e
      · rename_i e; exact .inr (.inl e)
      · rename_i e; exact .inr (.inr e)
      · cases h
    have pv : ∀ {k : Nat} {x : Str} {q : Pos}, slotB S k x = true → vis S x = true → plainNm x = true → PE X (.Name x q) (tVar k) := fun {k x q} a b c => by
      unfold plainNm at c
      simp only [Bool.and_eq_true, Bool.not_eq_true'] at c
      exact pe_var (i := k) (by rw [hN]; exact slotB_ok a) (vs b) c.1 c.2
    obtain ⟨n1, n2⟩ := List.nodup_cons.mp nd
    have ih := frz_body hN hsc cl r fl' (i + 1) h3 n2 (fun g hg => hl g (List.mem_cons_of_mem _ hg)) nm fun g hg => na g (List.mem_cons_of_mem _ hg)
    refine PSs.imp (pss_cons (ps_fld (pv k1 k2 h8) (pv h9 h5 h6) sw_attr) ih) fun D σ H ⟨x, dx, fs, us, q0, q1, q2, q3, q4, q5, q6⟩ => ?_
    cases us with
    | nil => cases q2
    | cons u us =>
      have nf := na f (List.mem_cons_self ..)
      rw [hnm] at nf
      have nfs : nm' ∉ fs.map (·.1) := by rw [← hnm]; exact q4 f (List.mem_cons_self ..)
      have q5' : fs.length + (fl'.length + 1) < 1000 := q5
      refine ⟨u, q1 0 u rfl, .ref x, q0, x, Ca, dx, fs, rfl, q3, cl, nf, by omega, x, dx, fs ++ [(nm', u)], us, q0, fun j v e => ?_, by simpa using q2, ?_, fun g hg z => ?_, ?_, ?_⟩
      · have := q1 (j + 1) v (by simpa using e)
        rw [show i + 1 + j = i + (j + 1) by omega]
        exact this
      · rw [upd_same, putF_new nfs]
      · rw [List.map_append, List.mem_append] at z
        rcases z with z | z
        · exact q4 g (List.mem_cons_of_mem _ hg) z
        · have e : G.nm g = nm' := by simpa using z
          rw [← hnm] at e
          have ne : g ≠ f := fun w => n1 (w ▸ hg)
          have := nm_ne (G := G.toGi) nm (hl g (List.mem_cons_of_mem _ hg)) ne
          rw [e] at this
          simp at this
      · rw [List.length_append, List.length_singleton]; omega
      · rw [upd_upd, List.append_assoc]
        have e : (f :: fl').map G.nm = nm' :: fl'.map G.nm := by rw [List.map_cons, hnm]
        rw [e] at q6
        exact q6
/-! ### the defs -/
section
variable {G : Gs} {P : Program} {w : World} {K : PySem.W.Frag} {mg : Str → Option Value} {base : Heap}
theorem fi_of (wf : wfB G = true) {f : Nat} {fi : FI} (h : G.fns[f]? = some fi) : scopeB fi = true ∧ parsB fi = true ∧ agB G fi.ir (bodyS fi) fi.d.body = true := by
  unfold wfB at wf
  simp only [Bool.and_eq_true, List.all_eq_true] at wf
  exact and3 (wf.1.1.1.1 fi (List.mem_of_getElem? h))
theorem nm_of (wf : wfB G = true) : G.nms.Nodup ∧ ("" : Str) ∉ G.nms := by
  unfold wfB at wf
  simp only [Bool.and_eq_true, Bool.not_eq_true', decide_eq_true_eq] at wf
  exact ⟨wf.1.1.2, fun z => by rw [List.contains_iff_mem.mpr z] at wf; exact absurd wf.1.2 (by simp)⟩
theorem dfl_of {fi : FI} (h : parsB fi = true) : fi.d.dvs K = [] := by
  unfold parsB at h
  simp only [Bool.and_eq_true] at h
  have e : fi.d.dfl = [] := List.isEmpty_iff.mp h.2
  unfold He.DefD.dvs
  rw [e]
  rfl
theorem binds_of {fi : FI} (hs : scopeB fi = true) (h : parsB fi = true) {fd : FuncData} (F : FunD K fi.d.name fi.d.qual fi.d.params fi.d.body fi.d.scope (fi.d.dvs K) (fi.d.kws K) (He.fAd K fi.d.at_) fd) :
    (∀ (kV doc pm : Value) (an : Option Addr) (cdv ct : Value) (us : List Value), us.length = fi.ps.length → bindArgs (PySem.W.fnOf fi.d.name fi.d.qual fi.d.params fi.d.body fi.d.scope .none kV doc pm an cdv ct) ⟨us, []⟩ = pure (fi.ps.zip us)) := by
  have S := scopeB_ok hs
  unfold parsB at h
  simp only [Bool.and_eq_true, decide_eq_true_eq] at h
  obtain ⟨⟨⟨⟨⟨h1, h2⟩, h3⟩, h4⟩, h5⟩, h6⟩ := h
  intro kV doc pm an cdv ct us hl
  exact bind_all (List.isEmpty_iff.mp h1) h2 (Option.isNone_iff_eq_none.mp h3) (List.isEmpty_iff.mp h4) (Option.isNone_iff_eq_none.mp h5) (by rw [← S.pre]; exact S.nd.sublist (List.take_sublist _ _)) hl
theorem start_ok {B : Ent} {Wd : Wd} {H : Hp} {N : List Str} {ds : List D} {vs : List V} (hl : ds.length ≤ N.length) (r : RepL K G.toGi Wd ds vs) (st : Step B.H B.w H Wd) : Sok K G.toGi B Wd H (L2.start N vs) (ds.map Slot.val ++ List.replicate (N.length - ds.length) Slot.emp) := by
  have e := r.length
  refine ⟨by unfold L2.start; simp [e], fun i s hs => ?_, fun i j xs ys h1 h2 _ => ?_, st⟩
  · by_cases hi : i < ds.length
    · rw [List.getElem?_append_left (by simpa using hi), List.getElem?_map] at hs
      cases ed : ds[i]? with
      | none => rw [ed] at hs; cases hs
      | some d =>
        rw [ed] at hs
        cases hs
        obtain ⟨v, hv, rv⟩ := r.get ed
        refine ⟨v, ?_, rv⟩
        unfold L2.start
        rw [List.getElem?_append_left (by simp [e, hi]), List.getElem?_map, hv]
        rfl
    · rw [List.getElem?_append_right (by simpa using hi), List.getElem?_replicate] at hs
      split at hs
      · cases hs; trivial
      · cases hs
  · exfalso
    by_cases hi : i < ds.length
    · rw [List.getElem?_append_left (by simpa using hi), List.getElem?_map] at h1
      cases ed : ds[i]? with
      | none => rw [ed] at h1; cases h1
      | some d => rw [ed] at h1; cases h1
    · rw [List.getElem?_append_right (by simpa using hi), List.getElem?_replicate] at h1
      split at h1 <;> cases h1
/-- what stands for the whole module -/
structure Mdl (G : Gs) (fo : Nat → FuncData) (P : Program) (w : World) (K : PySem.W.Frag) (mg : Str → Option Value) (base : Heap) : Prop where
  wf : wfB G = true
  fac : Fac G K mg
  fd : ∀ (f : Nat) (fi : FI), G.fns[f]? = some fi → FunD K fi.d.name fi.d.qual fi.d.params fi.d.body fi.d.scope (fi.d.dvs K) (fi.d.kws K) (He.fAd K fi.d.at_) (fo f)
theorem Mdl.ini {fo : Nat → FuncData} (M : Mdl G fo P w K mg base) {c : Nat} {ci : CI} (hc : G.cs[c]? = some ci) (hz : ci.frz = true) : ∃ fi fd, G.fns[ci.ini]? = some fi ∧ FnOk P w K mg base (L2.CX P w) 1 (He.fAd K fi.d.at_) fd fi.ps (spI K G.toGi c ci.fld) ∧ Binds K fd fi.ps [] ∧ PySem.W.keepIn K (.ref (He.fAd K fi.d.at_)) = true := by
  have wf := M.wf
  have nm := nm_of wf
  unfold wfB at wf
  simp only [Bool.and_eq_true, List.all_eq_true] at wf
  have hk := wf.1.1.1.2 ci (List.mem_of_getElem? hc)
  unfold clsOk at hk
  simp only [Bool.and_eq_true, List.all_eq_true, decide_eq_true_eq] at hk
  obtain ⟨⟨⟨⟨k1, k2⟩, k3⟩, k4⟩, k5⟩ := hk
  cases ef : G.fns[ci.ini]? with
  | none => rw [ef] at k1; cases k1
  | some fi =>
    rw [ef] at k1
    obtain ⟨_, k6⟩ := and2 k1
    rw [hz] at k6
    obtain ⟨k7, k8⟩ := and2 (show (frzGo G (bodyS fi) fi.d.body ci.fld 1 && decide (fi.ps.length = ci.fld.length + 1)) = true from k6)
    have k8 : fi.ps.length = ci.fld.length + 1 := of_decide_eq_true k8
    have F := M.fd ci.ini fi ef
    obtain ⟨s1, s2, s3⟩ := fi_of M.wf ef
    have S := scopeB_ok s1
    have bd := binds_of s1 s2 F
    have F' := F
    rw [dfl_of s2] at F'
    obtain ⟨cls, _, _⟩ := M.fac.cls c ci hc
    refine ⟨fi, fo ci.ini, rfl, F.ok S (fun vs H Q E h => ?_) (fun cdv A outer s H vs Q E hr h => ⟨_, frz_body (X := cxOf (L2.CX P w) P w K mg base fi.N fi.d.qual fi.d.scope (He.fAd K fi.d.at_) cdv A outer s H E) (S := bodyS fi) rfl rfl cls fi.d.body ci.fld 1 k7 k3 k5 nm (fun f hf => M.fac.noat c ci f hc hf), ?_⟩), F'.bindsN bd, F.kp⟩
    · obtain ⟨x, dx, us, rfl, hl, _⟩ := h
      rw [List.length_cons, hl, k8]
    · obtain ⟨x, dx, us, rfl, hl, hx, q⟩ := h
      have hp : fi.ps.length ≤ fi.N.length := by have := congrArg List.length S.pre; rw [List.length_take] at this; omega
      refine ⟨x, dx, [], us, rfl, fun j u e => ?_, hl, hx, fun f hf => by simp, by simp; omega, q⟩
      unfold L2.start
      rw [List.getElem?_append_left (by
        have := (List.getElem?_eq_some_iff.mp e).1
        simp; omega), List.getElem?_map, show 1 + j = j + 1 by omega, List.getElem?_cons_succ, e]
      rfl
/-- THE RULE: every def does what its IR means -/
theorem Mdl.ok {fo : Nat → FuncData} (M : Mdl G fo P w K mg base) : ∀ (n f : Nat) (fi : FI), G.fns[f]? = some fi → FnOk P w K mg base (L2.CX P w) (2 * n + 2) (He.fAd K fi.d.at_) (fo f) fi.ps (spF K G.toGi fi.ps.length (phi G.cs (fbs G.toGi) n f)) ∧ Binds K (fo f) fi.ps [] ∧ PySem.W.keepIn K (.ref (He.fAd K fi.d.at_)) = true
  | 0, f, fi, e => by
    have F := M.fd f fi e
    obtain ⟨s1, s2, s3⟩ := fi_of M.wf e
    have F' := F
    rw [dfl_of s2] at F'
    refine ⟨F.ok (k := 1) (scopeB_ok s1) (fun vs H Q E h => ?_) (fun cdv A outer s H vs Q E hr h => ?_), F'.bindsN (binds_of s1 s2 F), F.kp⟩
    · obtain ⟨_, _, _, _, _, _, P⟩ := h; exact P.elim
    · obtain ⟨_, _, _, _, _, _, P⟩ := h; exact P.elim
  | n + 1, f, fi, e => by
    have F := M.fd f fi e
    obtain ⟨s1, s2, s3⟩ := fi_of M.wf e
    have S := scopeB_ok s1
    have F' := F
    rw [dfl_of s2] at F'
    refine ⟨F.ok (k := 2 * n + 3) S (fun vs H Q E h => ?_) (fun cdv A outer s H vs Q E hr h => ?_), F'.bindsN (binds_of s1 s2 F), F.kp⟩
    · obtain ⟨_, _, ds, _, r, hl, _⟩ := h
      rw [r.length, hl]
    · obtain ⟨w0, μ, ds, Co, r, hl, Po⟩ := h
      have C : Cxt G (phi G.cs (fbs G.toGi) n) (2 * n + 3) (cxOf (L2.CX P w) P w K mg base fi.N fi.d.qual fi.d.scope (He.fAd K fi.d.at_) cdv A outer s H E) (bodyS fi) (fun cls d _ H => E cls d H) := by
        refine ⟨rfl, S.nd, rfl, rfl, hr, L2.takes_of rfl rfl rfl rfl, fun x _ => .inl rfl, M.fac, fun g gi eg => ?_, fun c ci ec ez => ?_⟩
        · obtain ⟨G1, G2, G3⟩ := M.ok n g gi eg
          exact ⟨gi, fo g, 2 * n + 2, eg, by omega, G1, G2, G3⟩
        · obtain ⟨gi, gd, e1, G1, G2, G3⟩ := M.ini ec ez
          exact ⟨gi, gd, 1, e1, by omega, G1, G2, G3⟩
      have Ar : Arity G (phi G.cs (fbs G.toGi) n) := fun g gi es ν eg ne => by
        cases n with
        | zero => rfl
        | succ n =>
          have eb : (fbs G.toGi)[g]? = some ⟨gi.ir, gi.N.length, gi.ps.length⟩ := by
            unfold fbs
            rw [List.getElem?_map, eg]; rfl
          unfold phi
          rw [eb]
          exact if_neg ne
      have eb : (fbs G.toGi)[f]? = some ⟨fi.ir, fi.N.length, fi.ps.length⟩ := by
        unfold fbs
        rw [List.getElem?_map, e]; rfl
      have hp : fi.ps.length ≤ fi.N.length := by have := congrArg List.length S.pre; rw [List.length_take] at this; omega
      refine ⟨_, sB Ar C S.kind (L2.passes_of rfl) ⟨H, w0⟩ fi.ir s3, w0, ds.map Slot.val ++ List.replicate (fi.N.length - ds.length) Slot.emp, μ, Co, start_ok (by rw [hl]; exact hp) r (.refl H w0), ?_⟩
      have Po' : PostE K G.toGi false H w0 Q E (match denB G.cs (phi G.cs (fbs G.toGi) n) fi.ir (ds.map Slot.val ++ List.replicate (fi.N.length - ds.length) Slot.emp) μ with
        | .nx _ μ => .ok .non μ
        | .rt d μ => .ok d μ
        | .ex c a _ μ => .ex c a μ
        | _ => .bad) := by
        unfold phi at Po
        rw [eb] at Po
        have Po2 : PostE K G.toGi false H w0 Q E (if ds.length = fi.ps.length then runB G.cs (phi G.cs (fbs G.toGi) n) fi.ir fi.N.length ds μ else .bad) := Po
        rw [if_pos hl] at Po2
        exact Po2
      cases er : denB G.cs (phi G.cs (fbs G.toGi) n) fi.ir (ds.map Slot.val ++ List.replicate (fi.N.length - ds.length) Slot.emp) μ with
      | nx ρ' μ' => rw [er] at Po'; exact fun σ' H' w' l C' S' => Po' .non H' w' S'.st C' rfl
      | rt d μ' => rw [er] at Po'; exact fun v H' w' st C' r' => Po' v H' w' st C' r'
      | ex c a ρ' μ' => rw [er] at Po'; exact fun cls dd σ' H' w' l C' S' x => Po' cls dd H' w' S'.st C' x
      | bk ρ' μ' => rw [er] at Po'; exact Po'.elim
      | ct ρ' μ' => rw [er] at Po'; exact Po'.elim
      | bad => rw [er] at Po'; exact Po'.elim
end
/-! ### a law -/
/-- where nothing is let out -/
theorem quiet {P : Program} {w : World} {K : PySem.W.Frag} {mg : Str → Option Value} {base : Heap} {k : Nat} {f : Addr} {fd : FuncData} {ps : List Str} {sp : Sp} (F : FnOk P w K mg base (L2.CX P w) k f fd ps sp) : FnOk P w K mg base CX0 k f fd ps fun vs H Q _ => sp vs H Q E0 :=
  ⟨fun vs H Q _ h => F.len vs H Q E0 h, fun A outer s H args us vs Q E hr e0 hb hv hs => codeAny_mono (F.run A outer s H args us vs Q E0 hr e0 hb hv hs) fun r s' h => by
    cases r with
    | ok fl => cases fl <;> exact h
    | error u =>
      obtain ⟨_, _, _, _, _, _, _, _, _, _, _, _, z⟩ := h
      exact z.elim⟩
theorem lawF {G : Gs} (wf : wfB G = true) {ix depth n : Nat} {fi : FI} (e : G.fns[ix]? = some fi) (ha : fi.d.at_ = (("law" : Str), none)) (hp : fi.ps = [("script" : Str)]) (hl : ∀ ns : List Int, ns.length ≤ n → ∃ μ, phi G.cs (fbs G.toGi) depth ix [.scr ns] [] = .ok (.bl true) μ)
    {P : Program} (w : World) (mg : Str → Option Value) (fa : Addr) (h : Heap) (Y : ∃ K : PySem.W.Frag, K.In h ∧ He.SaysD (faOf G) (fnOf G.toGi) K) (N : h.Ns mainGlobals mg) (hm : mg ("law" : Str) = some (.ref fa)) :
    ∃ (K : PySem.W.Frag) (fd : FuncData) (sp : Sp), K.In h ∧ (∀ (s : Shared) (u : Value), BindsTo s fd ⟨[u], []⟩ [("script", u)]) ∧
      (∀ (H : Hp) (a : Addr) (ns : List Int), ns.length ≤ n → Only H → SqL K H a (ns.map V.int) → sp [.ref a] H (fun v _ => v = .bl true) fun _ _ _ => False) ∧
      ∀ base : Heap, K.In base → base.Ns mainGlobals mg → FnOk P w K mg base CX0 (2 * depth + 2) fa fd ["script"] sp := by
  obtain ⟨K, KX, c⟩ := Y
  have fac := fac_of wf KX N c
  obtain ⟨fd0, F0⟩ := He.SaysD.def_ c ix (fnOf_get e)
  have ex : ∀ f : Nat, ∃ fd : FuncData, ∀ gi : FI, G.fns[f]? = some gi → FunD K gi.d.name gi.d.qual gi.d.params gi.d.body gi.d.scope (gi.d.dvs K) (gi.d.kws K) (He.fAd K gi.d.at_) fd := fun f => by
    cases ef : G.fns[f]? with
    | none => exact ⟨fd0, fun gi z => by cases z⟩
    | some gi =>
      obtain ⟨fd, F⟩ := He.SaysD.def_ c f (fnOf_get ef)
      exact ⟨fd, fun gj z => by cases z; exact F⟩
  let fo : Nat → FuncData := fun f => Classical.choose (ex f)
  have hfo : ∀ (f : Nat) (gi : FI), G.fns[f]? = some gi → FunD K gi.d.name gi.d.qual gi.d.params gi.d.body gi.d.scope (gi.d.dvs K) (gi.d.kws K) (He.fAd K gi.d.at_) (fo f) := fun f => Classical.choose_spec (ex f)
  obtain ⟨s1, s2, s3⟩ := fi_of wf e
  have F := hfo ix fi e
  have F' := F
  rw [dfl_of s2] at F'
  have hg := fac.glo ix fi "law" e ha
  have ea : fa = He.fAd K fi.d.at_ := by
    rw [hm] at hg
    cases hg
    rfl
  refine ⟨K, fo ix, fun vs H Q _ => spF K G.toGi fi.ps.length (phi G.cs (fbs G.toGi) depth ix) vs H Q E0, KX, fun s u => ?_, fun H a ns hn hO hS => ?_, fun base KB NB => ?_⟩
  · have := F'.bindsA (ps := fi.ps) (binds_of s1 s2 F) s [u] (by rw [hp]; rfl)
    rw [hp] at this
    exact this
  · obtain ⟨μ, hμ⟩ := hl ns hn
    refine ⟨⟨H, []⟩, [], [.scr ns], ⟨fun _ _ e => e, rfl, List.nodup_nil, fun _ z => (nomatch z), fun n a c z => by simp at z⟩, ⟨.ref a, [], rfl, ⟨a, rfl, hS⟩, rfl⟩, by rw [hp]; rfl, ?_⟩
    rw [hμ]
    exact fun v H' w' s C r => r
  · have Md : Mdl G fo P w K mg base := ⟨wf, fac, hfo⟩
    have := quiet (Md.ok depth ix fi e).1
    rw [hp] at this ⊢
    rw [ea]
    exact this
end Z

/-! Z18: running an IR by hand: what comes out, rule by rule. -/
namespace Z
open PySem PySem.Spec PyProof.Rows L2

def R.To {α : Type} (r : R α) (Q : α → Mu → Prop) : Prop := match r with
  | .ok a μ => Q a μ
  | _ => False
structure Ek where
  nx : Rho → Mu → Prop
  rt : D → Mu → Prop
  bk : Rho → Mu → Prop
  ct : Rho → Mu → Prop
def RS.To (r : RS) (E : Ek) : Prop := match r with
  | .nx ρ μ => E.nx ρ μ
  | .rt d μ => E.rt d μ
  | .bk ρ μ => E.bk ρ μ
  | .ct ρ μ => E.ct ρ μ
  | _ => False
section
variable {α β : Type} {μ : Mu} {ρ : Rho} {E : Ek}
theorem to_ok {a : α} {Q : α → Mu → Prop} : R.To (.ok a μ) Q = Q a μ := rfl
theorem to_bind {r : R α} {k : α → Mu → R β} {Q : β → Mu → Prop} : R.To (r.bind k) Q = R.To r fun a μ => R.To (k a μ) Q := by cases r <;> rfl
theorem to_noex {r : R α} {Q : α → Mu → Prop} : R.To r.noex Q = R.To r Q := by cases r <;> rfl
theorem to_opt {o : Option α} {Q : α → Mu → Prop} : R.To (R.opt o μ) Q = ∃ a, o = some a ∧ Q a μ := by
  cases o with
  | none => exact propext ⟨fun h => h.elim, fun ⟨_, h, _⟩ => by cases h⟩
  | some a => exact propext ⟨fun h => ⟨a, rfl, h⟩, fun ⟨_, h, q⟩ => by cases h; exact q⟩
theorem to_some {a : α} {Q : α → Mu → Prop} : R.To (R.opt (some a) μ) Q = Q a μ := rfl
theorem tos_bindR {r : R α} {k : α → Mu → RS} : RS.To (RS.bindR ρ r k) E = R.To r fun a μ => RS.To (k a μ) E := by cases r <;> rfl
theorem tos_seq {r : RS} {k : Rho → Mu → RS} : RS.To (r.seq k) E = RS.To r { E with nx := fun ρ μ => RS.To (k ρ μ) E } := by cases r <;> rfl
theorem tos_nx : RS.To (.nx ρ μ) E = E.nx ρ μ := rfl
theorem tos_rt {d : D} : RS.To (.rt d μ) E = E.rt d μ := rfl
theorem tos_bk : RS.To (.bk ρ μ) E = E.bk ρ μ := rfl
theorem tos_ct : RS.To (.ct ρ μ) E = E.ct ρ μ := rfl
theorem R.To.mono {r : R α} {Q Q' : α → Mu → Prop} (h : R.To r Q) (hq : ∀ a μ, Q a μ → Q' a μ) : R.To r Q' := by
  cases r with
  | ok a μ => exact hq a μ h
  | _ => exact h
theorem R.To.ex {r : R α} {Q : α → Mu → Prop} (h : R.To r Q) : ∃ a μ, r = .ok a μ ∧ Q a μ := by
  cases r with
  | ok a μ => exact ⟨a, μ, rfl, h⟩
  | _ => exact h.elim
end
/-- a def's call -/
theorem to_phi {cs : List CI} {fs : List FB} {n f : Nat} {fb : FB} {ds : List D} {μ : Mu} {Q : D → Mu → Prop} (h : fs[f]? = some fb) (hl : ds.length = fb.np)
    (hb : RS.To (denB cs (phi cs fs n) fb.ir (ds.map Slot.val ++ List.replicate (fb.nn - ds.length) Slot.emp) μ) { nx := fun _ μ => Q .non μ, rt := Q, bk := fun _ _ => False, ct := fun _ _ => False }) : R.To (phi cs fs (n + 1) f ds μ) Q := by
  unfold phi
  rw [h]
  simp only [hl, if_true]
  unfold runB
  rw [hl] at hb
  rw [hl]
  revert hb
  cases denB cs (phi cs fs n) fb.ir (ds.map Slot.val ++ List.replicate (fb.nn - fb.np) Slot.emp) μ <;> exact fun h => h
section
variable {cs : List CI} {Φ : Phi} {m : Bool} {ρ : Rho} {μ : Mu} {d : D} {s : Slot} {i : Nat}
theorem var_z : varD 0 m (.val d :: ρ) μ = .ok d μ := rfl
theorem var_o {xs : List D} : varD 0 true (.own xs :: ρ) μ = .ok (.lst xs) μ := rfl
theorem var_s : varD (i + 1) m (s :: ρ) μ = varD i m ρ μ := rfl
theorem set_z {t : Slot} : Slot.set (s :: ρ) 0 t = some (t :: ρ) := rfl
theorem set_s {t : Slot} : Slot.set (s :: ρ) (i + 1) t = (Slot.set ρ i t).map (s :: ·) := by
  unfold Slot.set
  by_cases h : i < ρ.length
  · rw [if_pos h, if_pos (by simpa using h)]; rfl
  · rw [if_neg h, if_neg (by simpa using h)]; rfl
end
section
variable {cs : List CI} {Φ : Phi} {ρ : Rho} {μ : Mu} {E : Ek} {α β : Type}
theorem to_ite {b : Bool} {x : α} {Q : α → Mu → Prop} : R.To (R.opt (ite? b x) μ) Q = (b = true ∧ Q x μ) := by
  cases b with
  | true => exact propext ⟨fun h => ⟨rfl, h⟩, fun h => h.2⟩
  | false => exact propext ⟨fun h => h.elim, fun h => by cases h.1⟩
theorem to_fit {b : Bool} {a : α} {Q : α → Mu → Prop} : R.To (if b = true then R.ok a μ else R.bad) Q = (b = true ∧ Q a μ) := by
  cases b with
  | true => exact propext ⟨fun h => ⟨rfl, h⟩, fun h => h.2⟩
  | false => exact propext ⟨fun h => h.elim, fun h => by cases h.1⟩
theorem to_map {o : Option α} {f : α → β} {Q : β → Mu → Prop} : R.To (R.opt (o.map f) μ) Q = R.To (R.opt o μ) fun a μ => Q (f a) μ := by cases o <;> rfl
theorem to_obind {o : Option α} {f : α → Option β} {Q : β → Mu → Prop} : R.To (R.opt (o.bind f) μ) Q = R.To (R.opt o μ) fun a μ => R.To (R.opt (f a) μ) Q := by cases o <;> rfl
theorem tob_nil : RS.To (denB cs Φ .nil ρ μ) E = E.nx ρ μ := rfl
theorem tob_cons {s : Sm} {b : Bk} (h : RS.To (denS cs Φ s ρ μ) { nx := fun ρ μ => RS.To (denB cs Φ b ρ μ) E, rt := E.rt, bk := E.bk, ct := E.ct }) : RS.To (denB cs Φ (.cons s b) ρ μ) E := by
  show RS.To ((denS cs Φ s ρ μ).seq fun ρ μ => denB cs Φ b ρ μ) E
  rw [tos_seq]
  exact h
end
section
variable {μ : Mu} {i j : Int} {x y : Str} {xs ys : List D} {a b : D} {n : Nat}
theorem b_add : binD .Add μ (.int i) (.int j) = some (.int (i + j)) := rfl
theorem b_sub : binD .Sub μ (.int i) (.int j) = some (.int (i - j)) := rfl
theorem b_mul : binD .Mult μ (.int i) (.int j) = ite? (mulOk i j) (.int (i * j)) := rfl
theorem b_div : binD .FloorDiv μ (.int i) (.int j) = ite? (divOk j) (.int (i.fdiv j)) := rfl
theorem b_mod : binD .Mod μ (.int i) (.int j) = ite? (decide (j ≠ 0)) (.int (i.fmod j)) := rfl
theorem b_pow : binD .Pow μ (.int i) (.int j) = ite? (powOk i j) (.int (i ^ j.toNat)) := rfl
theorem b_adds : binD .Add μ (.str x) (.str y) = ite? (fits (x.length + y.length)) (.str (x ++ y)) := rfl
theorem b_addl : binD .Add μ (.lst xs) (.lst ys) = (ite? (fits (xs.length + ys.length)) (xs ++ ys)).map .lst := rfl
theorem b_mull : binD .Mult μ (.lst xs) (.int j) = (ite? (i63 j && fits (xs.length * j.toNat)) (List.replicate j.toNat xs).flatten).map .lst := rfl
theorem c_lt : cmpD .Lt μ (.int i) (.int j) = some (decide (i < j)) := rfl
theorem c_le : cmpD .LtE μ (.int i) (.int j) = some (decide (i ≤ j)) := rfl
theorem c_gt : cmpD .Gt μ (.int i) (.int j) = some (decide (j < i)) := rfl
theorem c_ge : cmpD .GtE μ (.int i) (.int j) = some (decide (j ≤ i)) := rfl
theorem c_is : cmpD .Is μ a .non = some (isNon a) := by cases a <;> rfl
theorem c_isn : cmpD .IsNot μ a .non = some (!isNon a) := by cases a <;> rfl
theorem e_int : eqD μ (.int i) (.int j) = some (decide (i = j)) := by
  show some (PyData.eqv (.int i) (.int j)) = _
  congr 1
theorem c_eq : cmpD .Eq μ a b = eqD μ a b := by cases a <;> cases b <;> rfl
theorem c_ne : cmpD .NotEq μ a b = (eqD μ a b).map not := by cases a <;> cases b <;> rfl
theorem t_bl {k : Bool} : truD μ (.bl k) = some k := rfl
theorem t_int : truD μ (.int i) = some (i != 0) := rfl
theorem t_lst : truD μ (.lst xs) = some (!xs.isEmpty) := rfl
theorem t_non : truD μ .non = some false := rfl
theorem i_tup : idxD μ (.tup xs) (.int j) = atI xs j := rfl
theorem i_lst : idxD μ (.lst xs) (.int j) = atI xs j := rfl
theorem i_loc : idxD μ (.loc n) (.int j) = (asL μ (.loc n)).bind fun xs => atI xs j := rfl
theorem at0 {α : Type} {a : α} {r : List α} : atI (a :: r) 0 = some a := by
  unfold atI ixN
  rw [if_pos (by omega), if_pos (by first | (simp; done) | (simp; omega))]
  rfl
theorem at1 {α : Type} {a b : α} {r : List α} : atI (a :: b :: r) 1 = some b := by
  unfold atI ixN
  rw [if_pos (by omega), if_pos (by first | (simp; done) | (simp; omega))]
  rfl
theorem at2 {α : Type} {a b c : α} {r : List α} : atI (a :: b :: c :: r) 2 = some c := by
  unfold atI ixN
  rw [if_pos (by omega), if_pos (by first | (simp; done) | (simp; omega))]
  rfl
theorem at_nat {α : Type} {xs : List α} {k : Nat} (h : k < xs.length) : atI xs (k : Int) = some xs[k] := by
  unfold atI ixN
  rw [if_pos (by omega), if_pos (by omega)]
  simp [h]
theorem at_in {α : Type} {xs : List α} {k : Int} (h0 : 0 ≤ k) (h : k < xs.length) : ∃ (hk : k.toNat < xs.length), atI xs k = some xs[k.toNat] := by
  have hk : k.toNat < xs.length := by omega
  refine ⟨hk, ?_⟩
  have := at_nat hk
  rw [show ((k.toNat : Nat) : Int) = k by omega] at this
  exact this
theorem l_loc (h : μ[n]? = some (.lst xs)) : asL μ (.loc n) = some xs := by
  show (match μ[n]? with
    | some (.lst xs) => some xs
    | _ => none) = _
  rw [h]
theorem m_loc (h : μ[n]? = some (.lst xs)) : asM μ (.loc n) = some xs := by
  show (match μ[n]? with
    | some (.lst xs) => some xs
    | _ => none) = _
  rw [h]
theorem l_lst : asL μ (.lst xs) = some xs := rfl
theorem m_lst : asM μ (.lst xs) = some xs := rfl
theorem l_scr {ns : List Int} : asL μ (.scr ns) = some (ns.map .int) := rfl
theorem g_loc (h : μ[n]? = some (.lst xs)) : Pl.get μ (.loc n) = some (n, xs) := by
  show (match μ[n]? with
    | some (.lst xs) => some (n, xs)
    | _ => none) = _
  rw [h]
theorem f_int : biD .int μ [.int i] = some (.int i) := rfl
theorem f_len : biD .len μ [.lst xs] = some (.int (xs.length : Nat)) := rfl
theorem f_lens {ns : List Int} : biD .len μ [.scr ns] = some (.int (ns.length : Nat)) := by
  show some (D.int ((ns.map D.int).length : Nat)) = _
  rw [List.length_map]
theorem f_lent : biD .len μ [.str x] = ((ite? (fits x.length) x.length).bind fun (n : Nat) => some (n : Int)).map .int := rfl
theorem f_sum : biD .sum μ [a] = ((asL μ a).bind intsD).map fun l => .int l.sum := rfl
theorem f_max2 : biD .max2 μ [.int i, .int j] = some (.int (if j > i then j else i)) := rfl
theorem f_min2 : biD .min2 μ [.int i, .int j] = some (.int (if j < i then j else i)) := rfl
theorem ints_map : ∀ l : List Int, intsD (l.map .int) = some l
  | [] => rfl
  | i :: l => by
    show (intsD (l.map .int)).map _ = _
    rw [ints_map l]; rfl
end
local macro_rules | `(tactic| and_intros) => `(tactic| simp only [denS, denR, denE, denEs, denT, denTs, denBop, denN, denO, denC, denW, Exs.isNil, tos_seq, tos_bindR, tos_nx, tos_rt, tos_bk, tos_ct, to_bind, to_noex, to_ok, to_some, to_ite, to_fit, to_map, to_obind, tob_nil, var_z, var_o, var_s, set_z, set_s, Option.map_some, Option.bind_some, b_add, b_sub, b_mul, b_div, b_mod, b_pow, b_adds, b_addl, b_mull, c_lt, c_le, c_gt, c_ge, c_is, c_isn, c_eq, c_ne, e_int, t_bl, t_int, t_lst, t_non, i_tup, i_lst, i_loc, at0, at1, at2, l_lst, m_lst, l_scr, f_int, f_len, f_lens, f_lent, f_sum, f_max2, f_min2, List.map_cons, List.map_nil, List.length_cons, List.length_nil, List.replicate, List.cons_append, List.nil_append])
/-! ### changes -/
section
variable {cs : List CI} {Φ : Phi} {ρ : Rho} {μ : Mu} {α : Type} {arg : Mu → R α} {k : List D → α → Option (List D)} {res : List D → α → Option D} {Q : D × Rho → Mu → Prop} {xs ys : List D} {d : D} {i j : Int}
theorem chg_own {i : Nat} (h : getOwn ρ i = some xs) (ha : R.To (arg μ) fun a μ' => ∃ ys d, k xs a = some ys ∧ res xs a = some d ∧ Q (d, List.set ρ i (.own ys)) μ') : R.To (chgR cs Φ (.own i) ρ μ arg k res) Q := by
  show R.To (match getOwn ρ i with
    | none => R.bad
    | some xs => (arg μ).bind fun a μ => match k xs a, res xs a with
      | some ys, some d => .ok (d, List.set ρ i (.own ys)) μ
      | _, _ => .bad) Q
  rw [h]
  show R.To ((arg μ).bind _) Q
  rw [to_bind]
  refine R.To.mono ha fun a μ' ⟨ys, d, h1, h2, q⟩ => ?_
  rw [h1, h2]
  exact q
theorem chg_ref {e : Ex} (h : R.To (denE cs Φ e false ρ μ) fun x μ1 => ∃ n xs0, x = .loc n ∧ μ1[n]? = some (.lst xs0) ∧ R.To (arg μ1) fun a μ2 => ∃ xs ys d, μ2[n]? = some (.lst xs) ∧ k xs a = some ys ∧ res xs a = some d ∧ Q (d, ρ) (μ2.set n (.lst ys))) : R.To (chgR cs Φ (.ref e) ρ μ arg k res) Q := by
  unfold chgR
  show R.To ((denE cs Φ e false ρ μ).bind _) Q
  rw [to_bind]
  refine R.To.mono h fun x μ1 ⟨n, xs0, hx, h1, ha⟩ => ?_
  rw [hx, g_loc h1]
  show R.To ((arg μ1).bind _) Q
  rw [to_bind]
  refine R.To.mono ha fun a μ2 ⟨xs, ys, d, h2, h3, h4, q⟩ => ?_
  rw [g_loc h2]
  show R.To (match k xs a, res xs a with
    | some ys, some d => .ok (d, ρ) (μ2.set n (.lst ys))
    | _, _ => .bad) Q
  rw [h3, h4]
  exact q
theorem apo_to {E : Ek} {p : Pl} {o : Oe} {j : Nat} {zs0 : List D} (hj : getOwn ρ j = some zs0) (h : R.To (chgR cs Φ p ρ μ (fun μ => denO cs Φ o ρ μ) popK popV) fun r μ => ∃ zs, getOwn r.2 j = some zs ∧ zs.length < sizeLine ∧ E.nx (List.set r.2 j (.own (zs ++ [r.1]))) μ) : RS.To (denS cs Φ (.apo j p o) ρ μ) E := by
  show RS.To (match getOwn ρ j with
    | none => .bad
    | some _ => RS.bindR ρ (chgR cs Φ p ρ μ (fun μ => denO cs Φ o ρ μ) popK popV) fun r μ => match getOwn r.2 j with
      | some zs => match appK zs r.1 with
        | some zs => .nx (List.set r.2 j (.own zs)) μ
        | none => .bad
      | none => .bad) E
  rw [hj]
  show RS.To (RS.bindR ρ _ _) E
  rw [tos_bindR]
  refine R.To.mono h fun r μ1 ⟨zs, h1, h2, h3⟩ => ?_
  rw [h1]
  show RS.To (match appK zs r.1 with
        | some zs => .nx (List.set r.2 j (.own zs)) μ1
        | none => .bad) E
  unfold appK
  rw [decide_eq_true h2]
  exact h3
theorem frz_to {E : Ek} {i : Nat} (h : getOwn ρ i = some xs) (q : E.nx (List.set ρ i (.val (.lst xs))) μ) : RS.To (denS cs Φ (.frz i) ρ μ) E := by
  show RS.To (match getOwn ρ i with
    | some xs => .nx (List.set ρ i (.val (.lst xs))) μ
    | none => .bad) E
  rw [h]
  exact q
theorem erase_perm {α : Type} : ∀ {l : List α} {k : Nat} (h : k < l.length), (l[k] :: l.eraseIdx k).Perm l
  | [], k, h => absurd h (Nat.not_lt_zero k)
  | a :: l, 0, _ => .refl _
  | a :: l, k + 1, h => by
    have hk : k < l.length := by simpa using h
    have := erase_perm (l := l) (k := k) hk
    show (l[k] :: a :: l.eraseIdx k).Perm (a :: l)
    exact (List.Perm.swap a l[k] (l.eraseIdx k)).trans (this.cons a)
theorem pop_in {v : Int} (h0 : 0 ≤ v) (h1 : v < xs.length) (h2 : xs.length < 2 ^ 62) : ∃ h : v.toNat < xs.length, popK xs (some v) = some (xs.eraseIdx v.toNat) ∧ popV xs (some v) = some xs[v.toNat] := by
  have hk : v.toNat < xs.length := by omega
  have e : popIx xs (some v) = some v.toNat := by
    show (if i63 v then seqIndex? v xs.length else none) = _
    have : i63 v = true := i63_iff.mpr (by omega)
    rw [this, if_pos rfl]
    exact seqIndex_of h0 h1
  refine ⟨hk, ?_, ?_⟩
  · unfold popK
    rw [e]; rfl
  · unfold popV
    rw [e]
    exact List.getElem?_eq_getElem hk
theorem bt_bits : bmTy .bits μ (.int i) = true := rfl
theorem bd_bits : bmD .bits μ (.int i) [] = some (.int (Builtin.Int.intBits i : Nat)) := rfl
theorem g_rng1 : rngD [.int j] = ite? (rngOk j) (rngItems 0 j.toNat) := rfl
theorem g_rng2 : rngD [.int i, .int j] = ite? (rngOk i && rngOk j) (rngItems i (j - i).toNat) := rfl
theorem rng_at {lo : Int} {m i : Nat} {x : D} (h : (rngItems lo m)[i]? = some x) : i < m ∧ x = .int (lo + (i : Int)) := rng_items h
theorem rng_len {lo : Int} {m : Nat} : (rngItems lo m).length = m := by unfold rngItems; simp
theorem rngOk_of (h : -(2 ^ 62) < i) (k : i < 2 ^ 62) : rngOk i = true := rngOk_ble.mpr (by omega)
theorem app_k : appK xs d = ite? (decide (xs.length < sizeLine)) (xs ++ [d]) := rfl
theorem set_k : setK xs (d, .int i) = (ixN xs.length i).map fun j => xs.set j d := rfl
end
/-! ### loops -/
section
variable {ρ : Rho} {μ : Mu} {E : Ek}
theorem for_to {put : D → Rho → Option Rho} {b : Rho → Mu → RS} (I : Nat → Rho → Mu → Prop) : ∀ (xs : List D) (j : Nat) (ρ : Rho) (μ : Mu), I j ρ μ →
    (∀ (i : Nat) (x : D) ρ μ, xs[i]? = some x → I (j + i) ρ μ → ∃ ρ1, put x ρ = some ρ1 ∧ RS.To (b ρ1 μ) { nx := I (j + i + 1), ct := I (j + i + 1), rt := E.rt, bk := E.nx }) → (∀ ρ μ, I (j + xs.length) ρ μ → E.nx ρ μ) → RS.To (forGo put b xs ρ μ) E
  | [], j, ρ, μ, h, _, he => he ρ μ h
  | x :: xs, j, ρ, μ, h, hs, he => by
    obtain ⟨ρ1, e, hb⟩ := hs 0 x ρ μ rfl h
    have ih := for_to (put := put) (b := b) I xs (j + 1)
    have go : ∀ ρ μ, I (j + 1) ρ μ → RS.To (forGo put b xs ρ μ) E := fun ρ μ h' => ih ρ μ h' (fun i y ρ μ ey hi => by
      have := hs (i + 1) y ρ μ (by simpa using ey) (by rw [show j + (i + 1) = j + 1 + i by omega]; exact hi)
      rw [show j + (i + 1) + 1 = j + 1 + i + 1 by omega] at this
      exact this) fun ρ μ h' => he ρ μ (by rw [List.length_cons, show j + (xs.length + 1) = j + 1 + xs.length by omega]; exact h')
    show RS.To (match put x ρ with
      | none => .bad
      | some ρ => match b ρ μ with
        | .nx ρ μ => forGo put b xs ρ μ
        | .ct ρ μ => forGo put b xs ρ μ
        | .bk ρ μ => .nx ρ μ
        | r => r) E
    rw [e]
    revert hb
    show RS.To (b ρ1 μ) _ → RS.To (match b ρ1 μ with
        | .nx ρ μ => forGo put b xs ρ μ
        | .ct ρ μ => forGo put b xs ρ μ
        | .bk ρ μ => .nx ρ μ
        | r => r) E
    cases b ρ1 μ with
    | nx ρ μ => exact fun h => go ρ μ h
    | ct ρ μ => exact fun h => go ρ μ h
    | bk ρ μ => exact fun h => h
    | rt d μ => exact fun h => h
    | ex c a ρ μ => exact fun h => h
    | bad => exact fun h => h
theorem whl_to {t : Rho → Mu → R Bool} {b : Rho → Mu → RS} (I : Nat → Rho → Mu → Prop) (hs : ∀ m ρ μ, I m ρ μ → R.To (t ρ μ) fun k μ => match k with
      | false => E.nx ρ μ
      | true => RS.To (b ρ μ) { nx := fun ρ μ => ∃ m', m' < m ∧ I m' ρ μ, ct := fun ρ μ => ∃ m', m' < m ∧ I m' ρ μ, rt := E.rt, bk := E.nx }) : ∀ (n m : Nat) (ρ : Rho) (μ : Mu), m < n → I m ρ μ → RS.To (whlGo t b n ρ μ) E
  | 0, m, ρ, μ, hm, _ => absurd hm (Nat.not_lt_zero m)
  | n + 1, m, ρ, μ, hm, h => by
    have ih := whl_to I hs n
    show RS.To (RS.bindR ρ (t ρ μ) fun k μ => match k with
      | false => .nx ρ μ
      | true => match b ρ μ with
        | .nx ρ μ => whlGo t b n ρ μ
        | .ct ρ μ => whlGo t b n ρ μ
        | .bk ρ μ => .nx ρ μ
        | r => r) E
    rw [tos_bindR]
    refine R.To.mono (hs m ρ μ h) fun k μ1 h1 => ?_
    cases k with
    | false => exact h1
    | true =>
      have h1 : RS.To (b ρ μ1) { nx := fun ρ μ => ∃ m', m' < m ∧ I m' ρ μ, ct := fun ρ μ => ∃ m', m' < m ∧ I m' ρ μ, rt := E.rt, bk := E.nx } := h1
      revert h1
      show RS.To (b ρ μ1) _ → RS.To (match b ρ μ1 with
        | .nx ρ μ => whlGo t b n ρ μ
        | .ct ρ μ => whlGo t b n ρ μ
        | .bk ρ μ => .nx ρ μ
        | r => r) E
      cases b ρ μ1 with
      | nx ρ μ => exact fun ⟨m', hm', h'⟩ => ih m' ρ μ (by omega) h'
      | ct ρ μ => exact fun ⟨m', hm', h'⟩ => ih m' ρ μ (by omega) h'
      | bk ρ μ => exact fun h => h
      | rt d μ => exact fun h => h
      | ex c a ρ μ => exact fun h => h
      | bad => exact fun h => h
/-- a comprehension whose turns change nothing -/
theorem cmp_to {put : D → Rho → Option Rho} {tst : Rho → Mu → R Bool} {elt : Rho → Mu → R D} {β : Type} (e : β → D) (p : β → Bool) (f : β → D) {Q : List D → Mu → Prop} : ∀ (ys : List β) (acc : List D),
    (∀ y ∈ ys, ∃ ρ1, put (e y) ρ = some ρ1 ∧ R.To (tst ρ1 μ) (fun k μ' => k = p y ∧ μ' = μ) ∧ (p y = true → R.To (elt ρ1 μ) fun d μ' => d = f y ∧ μ' = μ)) → acc.length + ys.length ≤ sizeLine →
    Q (acc ++ (ys.filter p).map f) μ → R.To (compGo put tst elt ρ (ys.map e) acc μ) Q
  | [], acc, _, _, h => by
    show Q acc μ
    simpa using h
  | y :: ys, acc, hs, hl, h => by
    obtain ⟨ρ1, ep, ht, he⟩ := hs y (List.mem_cons_self ..)
    have hl' : acc.length + (ys.length + 1) ≤ sizeLine := hl
    show R.To (match put (e y) ρ with
      | none => .bad
      | some ρ1 => (tst ρ1 μ).noex.bind fun k μ1 => match k with
        | true => (elt ρ1 μ1).noex.bind fun d μ2 => if fits (acc.length + 1) then compGo put tst elt ρ (ys.map e) (acc ++ [d]) μ2 else .bad
        | false => compGo put tst elt ρ (ys.map e) acc μ1) Q
    rw [ep]
    show R.To ((tst ρ1 μ).noex.bind _) Q
    rw [to_bind, to_noex]
    refine R.To.mono ht fun k μ1 ⟨hk, hm⟩ => ?_
    rw [hk, hm]
    cases hp : p y with
    | false =>
      refine cmp_to e p f ys acc (fun z hz => hs z (List.mem_cons_of_mem _ hz)) (by omega) ?_
      rw [List.filter_cons, hp] at h
      simpa using h
    | true =>
      show R.To ((elt ρ1 μ).noex.bind _) Q
      rw [to_bind, to_noex]
      refine R.To.mono (he hp) fun d μ2 ⟨hd, hm⟩ => ?_
      rw [hd, hm]
      rw [if_pos (show fits (acc.length + 1) = true from decide_eq_true (by omega))]
      refine cmp_to e p f ys (acc ++ [f y]) (fun z hz => hs z (List.mem_cons_of_mem _ hz)) (by rw [List.length_append, List.length_singleton]; omega) ?_
      rw [List.filter_cons, hp] at h
      simpa using h
end
end Z

/-! Z19: the helpers that every law has: drawn numbers. -/
namespace Z
open PySem PySem.Spec PyProof.Rows L2
local macro_rules | `(tactic| and_intros) => `(tactic| simp only [denS, denR, denE, denEs, denT, denTs, denBop, denN, denO, denC, denW, Exs.isNil, tos_seq, tos_bindR, tos_nx, tos_rt, tos_bk, tos_ct, to_bind, to_noex, to_ok, to_some, to_ite, to_fit, to_map, to_obind, tob_nil, var_z, var_o, var_s, set_z, set_s, Option.map_some, Option.bind_some, b_add, b_sub, b_mul, b_div, b_mod, b_pow, b_adds, b_addl, b_mull, c_lt, c_le, c_gt, c_ge, c_is, c_isn, c_eq, c_ne, e_int, t_bl, t_int, t_lst, t_non, i_tup, i_lst, i_loc, at0, at1, at2, l_lst, m_lst, l_scr, f_int, f_len, f_lens, f_lent, f_sum, f_max2, f_min2, bt_bits, bd_bits, g_rng1, g_rng2, List.set_cons_zero, List.set_cons_succ, List.map_cons, List.map_nil, List.length_cons, List.length_nil, List.replicate, List.cons_append, List.nil_append])

theorem set_self {μ : Mu} {g : Nat} {c : Cell} (h : μ[g]? = some c) : μ.set g c = μ := by
  apply List.ext_getElem?
  intro i
  by_cases e : g = i
  · subst e
    rw [List.getElem?_set_self (List.getElem?_eq_some_iff.mp h).1, h]
  · rw [List.getElem?_set_ne e]
/-! ### sizes -/
def sz (k : Nat) (i : Int) : Prop := i.natAbs < 2 ^ k
theorem sz_mul {a b : Nat} {i j : Int} (h : sz a i) (k : sz b j) : sz (a + b) (i * j) := by
  unfold sz at *
  rw [Int.natAbs_mul, Nat.pow_add]
  have hb : 0 < 2 ^ b := Nat.two_pow_pos b
  rcases Nat.eq_zero_or_pos i.natAbs with z | z
  · rw [z, Nat.zero_mul]; exact Nat.mul_pos (Nat.two_pow_pos a) hb
  · exact Nat.mul_lt_mul_of_lt_of_le h (Nat.le_of_lt k) hb
theorem sz_add {a b : Nat} {i j : Int} (h : sz a i) (k : sz b j) : sz (a + b + 1) (i + j) := by
  unfold sz at *
  have h1 : (i + j).natAbs ≤ i.natAbs + j.natAbs := Int.natAbs_add_le i j
  have h2 : 2 ^ a ≤ 2 ^ (a + b) := Nat.pow_le_pow_right (by omega) (by omega)
  have h3 : 2 ^ b ≤ 2 ^ (a + b) := Nat.pow_le_pow_right (by omega) (by omega)
  rw [Nat.pow_succ]
  omega
theorem sz_mono {a b : Nat} {i : Int} (h : sz a i) (k : a ≤ b) : sz b i := Nat.lt_of_lt_of_le h (Nat.pow_le_pow_right (by omega) k)
theorem sz_log {a : Nat} {i : Int} (h : sz a i) : i.natAbs.log2 ≤ a := by
  unfold sz at h
  by_cases z : i.natAbs = 0
  · rw [z]; simp
  · exact Nat.le_of_lt (Nat.lt_of_le_of_ne (by
      by_cases hlt : i.natAbs.log2 ≤ a
      · exact hlt
      · exfalso
        have := Nat.log2_self_le z
        have h2 : 2 ^ a ≤ 2 ^ i.natAbs.log2 := Nat.pow_le_pow_right (by omega) (by omega)
        omega) fun e => by
      have := Nat.log2_self_le z
      rw [e] at this
      omega)
theorem mul_sz {a b : Nat} {i j : Int} (h : sz a i) (k : sz b j) (hl : a + b < 1000000) : mulOk i j = true := by
  unfold mulOk
  have := sz_log h
  have := sz_log k
  exact decide_eq_true (by omega)
theorem div_sz {a : Nat} {j : Int} (h0 : j ≠ 0) (h : sz a j) (hl : a < 9000) : divOk j = true := by
  unfold divOk
  have := sz_log h
  rw [decide_eq_true h0, decide_eq_true (by omega)]
  rfl
theorem sz_of {a : Nat} {i : Int} (h : -(2 ^ a : Int) < i) (k : i < 2 ^ a) : sz a i := by
  unfold sz
  have e : ((2 ^ a : Nat) : Int) = (2 : Int) ^ a := by simp
  omega
theorem mod_in {i m : Int} (h : 0 < m) : 0 ≤ i.fmod m ∧ i.fmod m < m := ⟨Int.fmod_nonneg_of_pos i h, Int.fmod_lt_of_pos i h⟩
/-! ### the generator's numbers -/
def irHash : Bk := (.cons (.nam 2 (.e (.bin .Mod (.blt .int (.cons (.bin .Add (.bin .Add (.bin .Add (.bin .Mult (.var 0) (.cst (.int 1140671))) (.bin .Mult (.bin .Mult (.cst (.int 27644437)) (.var 1)) (.var 1))) (.bin .Mult (.cst (.int 131)) (.var 1))) (.cst (.int 19))) .nil)) (.cst (.int 2147483629))))) (.cons (.nam 2 (.e (.bin .Mod (.blt .int (.cons (.bin .Add (.bin .Add (.bin .Mult (.var 2) (.var 2)) (.bin .Mult (.cst (.int 62089)) (.var 1))) (.cst (.int 32416187))) .nil)) (.cst (.int 2147483587))))) (.cons (.ret (.bin .Mod (.blt .int (.cons (.bin .Mult (.var 2) (.cst (.int 48271))) .nil)) (.cst (.int 2147483647)))) .nil)))
theorem hash_to {cs : List CI} {fs : List FB} {n f : Nat} {s i : Int} {μ : Mu} {Q : D → Mu → Prop} (h : fs[f]? = some ⟨irHash, 3, 2⟩) (hs : 0 ≤ s ∧ s < 2147483647) (hi : 0 ≤ i ∧ i < 10 ^ 50) (hq : ∀ r : Int, 0 ≤ r → r < 2147483647 → Q (.int r) μ) : R.To (phi cs fs (n + 1) f [.int s, .int i] μ) Q := by
  have s1 : sz 40 s := sz_of (by omega) (by omega)
  have s2 : sz 200 i := sz_of (by omega) (by omega)
  have c : ∀ k : Int, -1099511627776 < k → k < 1099511627776 → sz 40 k := fun k h1 h2 => sz_of (by omega) (by omega)
  refine to_phi h rfl ?_
  refine tob_cons ?_
  and_intros
  refine ⟨mul_sz s1 (c 1140671 (by omega) (by omega)) (by omega), mul_sz (c 27644437 (by omega) (by omega)) s2 (by omega), mul_sz (sz_mul (c 27644437 (by omega) (by omega)) s2) s2 (by omega), mul_sz (c 131 (by omega) (by omega)) s2 (by omega), by decide, ?_⟩
  obtain ⟨m1, m2⟩ := mod_in (i := s * 1140671 + 27644437 * i * i + 131 * i + 19) (m := 2147483629) (by decide)
  revert m1 m2
  generalize (s * 1140671 + 27644437 * i * i + 131 * i + 19).fmod 2147483629 = m
  intro m1 m2
  have s3 : sz 40 m := sz_of (by omega) (by omega)
  refine tob_cons ?_
  and_intros
  refine ⟨mul_sz s3 s3 (by omega), mul_sz (c 62089 (by omega) (by omega)) s2 (by omega), by decide, ?_⟩
  obtain ⟨k1, k2⟩ := mod_in (i := m * m + 62089 * i + 32416187) (m := 2147483587) (by decide)
  revert k1 k2
  generalize (m * m + 62089 * i + 32416187).fmod 2147483587 = m'
  intro k1 k2
  refine tob_cons ?_
  and_intros
  refine ⟨mul_sz (sz_of (a := 40) (by omega) (by omega)) (c 48271 (by omega) (by omega)) (by omega), by decide, ?_⟩
  obtain ⟨z1, z2⟩ := mod_in (i := m' * 48271) (m := 2147483647) (by decide)
  exact hq _ z1 z2
/-- the generator's three numbers -/
def GenV (x : List D) (k : Nat) : Prop := ∃ a b c : Int, x = [.int a, .int b, .int c] ∧ 0 ≤ a ∧ a < 10 ^ 600 ∧ 0 ≤ b ∧ b < 2147483647 ∧ 0 ≤ c ∧ c ≤ k
theorem GenV.mono {x : List D} {k l : Nat} (h : GenV x k) (hl : k ≤ l) : GenV x l := by
  obtain ⟨a, b, c, h1, h2, h3, h4, h5, h6, h7⟩ := h
  exact ⟨a, b, c, h1, h2, h3, h4, h5, h6, by omega⟩
def irRandom (h : Nat) : Bk := (.cons (.ife (.val (.cmp .Gt (.idx (.var 0) (.cst (.int 0))) (.cst (.int 0)))) (.cons (.nam 2 (.e (.bin .Mod (.blt .int (.cons (.idx (.var 0) (.cst (.int 0))) .nil)) (.var 1)))) (.cons (.sub (.ref (.var 0)) (.cst (.int 0)) (.bin .FloorDiv (.idx (.var 0) (.cst (.int 0))) (.var 1))) (.cons (.ret (.var 2)) .nil))) .nil) (.cons (.nam 2 (.e (.cst (.int 0)))) (.cons (.for (.nam 3) (.rng (.cons (.bin .Add (.cst (.int 1)) (.bin .FloorDiv (.bmt .bits (.var 1) .nil) (.cst (.int 30)))) .nil)) (.cons (.sub (.ref (.var 0)) (.cst (.int 2)) (.bin .Add (.idx (.var 0) (.cst (.int 2))) (.cst (.int 1)))) (.cons (.nam 2 (.e (.bin .Add (.bin .Mult (.var 2) (.cst (.int 2147483587))) (.call h (.cons (.idx (.var 0) (.cst (.int 1))) (.cons (.idx (.var 0) (.cst (.int 2))) .nil)))))) .nil))) (.cons (.ret (.bin .Mod (.blt .int (.cons (.var 2) .nil)) (.var 1))) .nil))))
theorem rand_to {cs : List CI} {fs : List FB} {n f hx g k : Nat} {bound : Int} {x : List D} {μ : Mu} {Q : D → Mu → Prop} (h1 : fs[hx]? = some ⟨irHash, 3, 2⟩) (h2 : fs[f]? = some ⟨irRandom hx, 4, 2⟩) (hg : μ[g]? = some (.lst x)) (hx' : GenV x k) (hk : k < 10 ^ 40) (hb : 1 ≤ bound ∧ bound < 2 ^ 3000)
    (hq : ∀ (r : Int) (y : List D), 0 ≤ r → r < bound → GenV y (k + 101) → Q (.int r) (μ.set g (.lst y))) : R.To (phi cs fs (n + 2) f [.loc g, .int bound] μ) Q := by
  obtain ⟨a, b, c, rfl, a0, a1, b0, b1, c0, c1⟩ := hx'
  have hgl : g < μ.length := (List.getElem?_eq_some_iff.mp hg).1
  refine to_phi h2 rfl ?_
  unfold irRandom
  refine tob_cons ?_
  and_intros
  simp only [l_loc hg]
  and_intros
  by_cases ha : 0 < a
  · simp only [ha, decide_true]
    refine tob_cons ?_
    and_intros
    simp only [l_loc hg]
    and_intros
    refine ⟨decide_eq_true (by omega), tob_cons ?_⟩
    and_intros
    simp only [l_loc hg]
    and_intros
    have hd : a.fdiv bound < 10 ^ 600 ∧ 0 ≤ a.fdiv bound := by
      have e : a.fdiv bound = a / bound := Int.fdiv_eq_ediv_of_nonneg a (by omega)
      rw [e]
      exact ⟨Int.lt_of_le_of_lt (Int.ediv_le_self bound a0) a1, Int.ediv_nonneg a0 (by omega)⟩
    refine ⟨div_sz (by omega) (sz_of (a := 3000) (by omega) (by omega)) (by omega), ?_⟩
    refine chg_ref ?_
    and_intros
    refine ⟨g, _, rfl, hg, _, _, _, hg, rfl, rfl, tob_cons ?_⟩
    and_intros
    obtain ⟨m1, m2⟩ := mod_in (i := a) (m := bound) (by omega)
    exact hq _ _ m1 m2 ⟨_, b, c, rfl, hd.2, hd.1, b0, b1, c0, by omega⟩
  · simp only [ha, decide_false]
    and_intros
    refine tob_cons ?_
    and_intros
    refine tob_cons ?_
    and_intros
    have hbit : Builtin.Int.intBits bound ≤ 3000 := by
      unfold Builtin.Int.intBits
      split
      · omega
      · have := sz_log (sz_of (a := 3000) (i := bound) (by omega) (by omega))
        by_cases e : bound.natAbs.log2 = 3000
        · exfalso
          have h3 := Nat.log2_self_le (n := bound.natAbs) (by omega)
          rw [e] at h3
          have : (2 ^ 3000 : Nat) ≤ bound.natAbs := h3
          omega
        · omega
    generalize hq' : ((Builtin.Int.intBits bound : Nat) : Int).fdiv 30 = q
    have hq0 : 0 ≤ q ∧ q ≤ 100 := by
      rw [← hq', Int.fdiv_eq_ediv_of_nonneg _ (by omega)]
      omega
    refine ⟨by decide, rngOk_of (by omega) (by omega), ?_⟩
    refine for_to (fun j ρ μ' => ∃ (dr c' : Int) (s : Slot), ρ = [.val (.loc g), .val (.int bound), .val (.int dr), s] ∧ μ' = μ.set g (.lst [.int a, .int b, .int c']) ∧ 0 ≤ dr ∧ sz (32 * (j + 1)) dr ∧ 0 ≤ c' ∧ c' ≤ k + j) _ 0 _ _ ⟨0, c, .emp, rfl, ?_, by omega, by unfold sz; decide, c0, by omega⟩ ?_ ?_
    · rw [set_self hg]
    · rintro i x ρ μ' hxx ⟨dr, c', s, rfl, rfl, d0, d1, e0, e1⟩
      obtain ⟨hi, rfl⟩ := rng_at hxx
      have hi' : i ≤ 100 := by omega
      have hg' : (μ.set g (.lst [.int a, .int b, .int c']))[g]? = some (.lst [.int a, .int b, .int c']) := List.getElem?_set_self hgl
      refine ⟨[.val (.loc g), .val (.int bound), .val (.int dr), .val (.int (0 + (i : Int)))], rfl, tob_cons ?_⟩
      and_intros
      simp only [l_loc hg']
      and_intros
      refine chg_ref ?_
      and_intros
      refine ⟨g, _, rfl, hg', [.int a, .int b, .int c'], [.int a, .int b, .int (c' + 1)], .non, hg', rfl, rfl, ?_⟩
      rw [List.set_set]
      have hg2 : (μ.set g (.lst [.int a, .int b, .int (c' + 1)]))[g]? = some (.lst [.int a, .int b, .int (c' + 1)]) := List.getElem?_set_self hgl
      refine tob_cons ?_
      and_intros
      repeat (simp only [l_loc hg2]; and_intros)
      refine ⟨mul_sz d1 (sz_of (a := 32) (by omega) (by omega)) (by omega), ?_⟩
      refine hash_to h1 ⟨b0, b1⟩ ⟨by omega, by omega⟩ fun r r0 r1 => ?_
      and_intros
      refine ⟨dr * 2147483587 + r, c' + 1, _, rfl, rfl, ?_, ?_, by omega, by omega⟩
      · have := Int.mul_nonneg d0 (show (0 : Int) ≤ 2147483587 by omega)
        omega
      · unfold sz at d1 ⊢
        have e : (dr * 2147483587 + r).natAbs = dr.natAbs * 2147483587 + r.natAbs := by
          have := Int.mul_nonneg d0 (show (0 : Int) ≤ 2147483587 by omega)
          have e1 : (dr * 2147483587).natAbs = dr.natAbs * 2147483587 := by rw [Int.natAbs_mul]; rfl
          omega
        rw [e, show 32 * (0 + i + 1 + 1) = 32 * (0 + i + 1) + 32 by omega, Nat.pow_add]
        have : r.natAbs < 2147483647 := by omega
        have h32 : (2 : Nat) ^ 32 = 4294967296 := by decide
        rw [h32]
        omega
    · rintro ρ μ' ⟨dr, c', s, rfl, rfl, d0, d1, e0, e1⟩
      refine tob_cons ?_
      and_intros
      refine ⟨decide_eq_true (by omega), ?_⟩
      obtain ⟨m1, m2⟩ := mod_in (i := dr) (m := bound) (by omega)
      rw [rng_len] at e1
      exact hq _ _ m1 m2 ⟨a, b, c', rfl, a0, a1, b0, b1, e0, by omega⟩
end Z

/-! Z20: equality of data that comes from plain values. -/
namespace Z
open PySem PySem.Spec PyProof.Rows L2

def eqvP (a b : D) : Bool := match toPy0 a, toPy0 b with
  | some x, some y => PyData.eqv x y
  | _, _ => false
/-- plain data, at most k deep -/
def Pln (k : Nat) (d : D) : Prop := ∃ p, toPy0 d = some p ∧ p.canLay0 = true ∧ p.depth ≤ k
theorem Pln.mono {j k : Nat} {d : D} (h : Pln j d) (hk : j ≤ k) : Pln k d := by
  obtain ⟨p, h1, h2, h3⟩ := h
  exact ⟨p, h1, h2, by omega⟩
theorem toPy_of {μ : Mu} {d : D} {p : PyData} (h : toPy0 d = some p) : toPy μ d = some p := by
  cases d <;> first | exact h | cases h
theorem pln_int {k : Nat} {i : Int} : Pln k (.int i) := ⟨_, rfl, by simp [PyData.canLay0], by simp [PyData.depth]⟩
theorem pln_bl {k : Nat} {i : Bool} : Pln k (.bl i) := ⟨_, rfl, by simp [PyData.canLay0], by simp [PyData.depth]⟩
theorem pln_non {k : Nat} : Pln k .non := ⟨_, rfl, by simp [PyData.canLay0], by simp [PyData.depth]⟩
theorem pln_str {k : Nat} {x : Str} (h : (PyData.str x).canLay0 = true) : Pln k (.str x) := ⟨_, rfl, h, by simp [PyData.depth]⟩
theorem plns {k : Nat} : ∀ {xs : List D}, (∀ x ∈ xs, Pln k x) → ∃ ps, toPys0 xs = some ps ∧ PyData.canLayAll0 ps = true ∧ PyData.depthAll ps ≤ k ∧ ps.length = xs.length
  | [], _ => ⟨[], by simp [toPys0], by simp [PyData.canLayAll0], by simp [PyData.depthAll], rfl⟩
  | x :: xs, h => by
    obtain ⟨p, h1, h2, h3⟩ := h x (List.mem_cons_self ..)
    obtain ⟨ps, k1, k2, k3, k4⟩ := plns (xs := xs) fun y hy => h y (List.mem_cons_of_mem _ hy)
    exact ⟨p :: ps, by simp [toPys0, h1, k1], by simp [PyData.canLayAll0, h2, k2], by simp [PyData.depthAll]; omega, by simp [k4]⟩
theorem pln_lst {k : Nat} {xs : List D} (h : ∀ x ∈ xs, Pln k x) : Pln (k + 1) (.lst xs) := by
  obtain ⟨ps, k1, k2, k3, _⟩ := plns h
  exact ⟨.list ps, by simp [toPy0, k1], by simp [PyData.canLay0, k2], by simp [PyData.depth]; omega⟩
theorem pln_tup {k : Nat} {xs : List D} (h : ∀ x ∈ xs, Pln k x) : Pln (k + 1) (.tup xs) := by
  obtain ⟨ps, k1, k2, k3, _⟩ := plns h
  exact ⟨.tuple ps, by simp [toPy0, k1], by simp [PyData.canLay0, k2], by simp [PyData.depth]; omega⟩
theorem shaped_of {p : PyData} (h : p.canLay0 = true) (k : p.depth ≤ 64) : SeqAt.shaped p = true := by
  unfold SeqAt.shaped
  rw [h, decide_eq_true k]
  rfl
theorem eq_of {μ : Mu} {a b : D} (ha : Pln 64 a) (hb : Pln 64 b) : eqD μ a b = some (eqvP a b) := by
  obtain ⟨p, h1, h2, h3⟩ := ha
  obtain ⟨q, k1, k2, k3⟩ := hb
  unfold eqD eqvP
  rw [toPy_of h1, toPy_of k1, h1, k1]
  show (if SeqAt.shaped p && SeqAt.shaped q then some (PyData.eqv p q) else none) = some (PyData.eqv p q)
  rw [shaped_of h2 h3, shaped_of k2 k3]
  rfl
theorem eq_nil {μ : Mu} {xs : List D} (h : ∀ x ∈ xs, Pln 63 x) : eqD μ (.lst xs) (.lst []) = some xs.isEmpty := by
  rw [eq_of (pln_lst h) (pln_lst (k := 63) fun x hx => absurd hx (by simp))]
  obtain ⟨ps, k1, k2, k3, k4⟩ := plns h
  have e : toPy0 (.lst xs) = some (.list ps) := by simp [toPy0, k1]
  have e2 : toPy0 (.lst []) = some (.list []) := by simp [toPy0, toPys0]
  unfold eqvP
  rw [e, e2]
  cases ps with
  | nil => cases xs with
    | nil => simp [PyData.eqv, PyData.eqvAll]
    | cons _ _ => cases k4
  | cons _ _ => cases xs with
    | nil => cases k4
    | cons _ _ => simp [PyData.eqv, PyData.eqvAll]
/-- values written as data: equal data, equal values -/
structure Enc {β : Type} (e : β → D) (ok : β → Prop) (k : Nat) : Prop where
  py : ∀ x, ok x → Pln k (e x)
  eq : ∀ x y, ok x → ok y → (eqvP (e x) (e y) = true ↔ x = y)
section
variable {β γ : Type} {e : β → D} {ok : β → Prop} {k : Nat} {e2 : γ → D} {ok2 : γ → Prop} {j : Nat}
theorem Enc.mono (E : Enc e ok k) (h : k ≤ j) : Enc e ok j := ⟨fun x hx => (E.py x hx).mono h, E.eq⟩
theorem Enc.eqD [DecidableEq β] (E : Enc e ok k) (hk : k ≤ 64) {μ : Mu} {x y : β} (hx : ok x) (hy : ok y) : eqD μ (e x) (e y) = some (decide (x = y)) := by
  rw [eq_of ((E.py x hx).mono hk) ((E.py y hy).mono hk)]
  congr 1
  have := E.eq x y hx hy
  by_cases h : x = y
  · rw [this.mpr h, decide_eq_true h]
  · rw [decide_eq_false h]
    cases q : eqvP (e x) (e y) with
    | false => rfl
    | true => exact absurd (this.mp q) h
theorem enc_int : Enc D.int (fun _ => True) 0 := ⟨fun _ _ => pln_int, fun x y _ _ => by
  show ((x == y) = true) ↔ _
  exact beq_iff_eq⟩
theorem enc_str : Enc D.str (fun x => (PyData.str x).canLay0 = true) 0 := ⟨fun _ h => pln_str h, fun x y _ _ => by
  show ((x == y) = true) ↔ _
  exact beq_iff_eq⟩
theorem eqv_all (E : Enc e ok k) : ∀ {xs ys : List β} {ps qs : List PyData}, (∀ x ∈ xs, ok x) → (∀ y ∈ ys, ok y) → toPys0 (xs.map e) = some ps → toPys0 (ys.map e) = some qs → (PyData.eqvAll ps qs = true ↔ xs = ys)
  | [], [], ps, qs, _, _, h1, h2 => by
    have e1 : ps = [] := by simpa [toPys0] using h1.symm
    have e2 : qs = [] := by simpa [toPys0] using h2.symm
    subst e1 e2
    simp [PyData.eqvAll]
  | [], y :: ys, ps, qs, _, hy, h1, h2 => by
    have e1 : ps = [] := by simpa [toPys0] using h1.symm
    subst e1
    obtain ⟨qs', k1, _, _, k4⟩ := plns (xs := (y :: ys).map e) (k := k) fun x hx => by
      obtain ⟨u, hu, rfl⟩ := List.mem_map.mp hx
      exact E.py u (hy u hu)
    rw [k1] at h2
    cases h2
    cases qs with
    | nil => cases k4
    | cons _ _ => simp [PyData.eqvAll]
  | x :: xs, [], ps, qs, hx, _, h1, h2 => by
    have e1 : qs = [] := by simpa [toPys0] using h2.symm
    subst e1
    obtain ⟨qs', k1, _, _, k4⟩ := plns (xs := (x :: xs).map e) (k := k) fun z hz => by
      obtain ⟨u, hu, rfl⟩ := List.mem_map.mp hz
      exact E.py u (hx u hu)
    rw [k1] at h1
    cases h1
    cases ps with
    | nil => cases k4
    | cons _ _ => simp [PyData.eqvAll]
  | x :: xs, y :: ys, ps, qs, hx, hy, h1, h2 => by
    obtain ⟨p, p1, _, _⟩ := E.py x (hx x (List.mem_cons_self ..))
    obtain ⟨q, q1, _, _⟩ := E.py y (hy y (List.mem_cons_self ..))
    obtain ⟨ps', a1, _⟩ := plns (xs := xs.map e) (k := k) fun z hz => by
      obtain ⟨u, hu, rfl⟩ := List.mem_map.mp hz
      exact E.py u (hx u (List.mem_cons_of_mem _ hu))
    obtain ⟨qs', b1, _⟩ := plns (xs := ys.map e) (k := k) fun z hz => by
      obtain ⟨u, hu, rfl⟩ := List.mem_map.mp hz
      exact E.py u (hy u (List.mem_cons_of_mem _ hu))
    have e1 : ps = p :: ps' := by
      have : toPys0 (e x :: xs.map e) = some (p :: ps') := by simp [toPys0, p1, a1]
      rw [List.map_cons, this] at h1
      exact (Option.some.inj h1).symm
    have e2 : qs = q :: qs' := by
      have : toPys0 (e y :: ys.map e) = some (q :: qs') := by simp [toPys0, q1, b1]
      rw [List.map_cons, this] at h2
      exact (Option.some.inj h2).symm
    subst e1 e2
    have ih := eqv_all E (fun z hz => hx z (List.mem_cons_of_mem _ hz)) (fun z hz => hy z (List.mem_cons_of_mem _ hz)) a1 b1
    have hh := E.eq x y (hx x (List.mem_cons_self ..)) (hy y (List.mem_cons_self ..))
    unfold eqvP at hh
    rw [p1, q1] at hh
    have hh' : PyData.eqv p q = true ↔ x = y := hh
    have u : PyData.eqvAll (p :: ps') (q :: qs') = (PyData.eqv p q && PyData.eqvAll ps' qs') := by simp [PyData.eqvAll]
    rw [u, Bool.and_eq_true, hh', ih, List.cons.injEq]
theorem enc_lst (E : Enc e ok k) : Enc (fun xs : List β => D.lst (xs.map e)) (fun xs => ∀ x ∈ xs, ok x) (k + 1) := by
  refine ⟨fun xs hx => pln_lst fun z hz => ?_, fun xs ys hx hy => ?_⟩
  · obtain ⟨u, hu, rfl⟩ := List.mem_map.mp hz
    exact E.py u (hx u hu)
  · obtain ⟨ps, a1, _⟩ := plns (xs := xs.map e) (k := k) fun z hz => by
      obtain ⟨u, hu, rfl⟩ := List.mem_map.mp hz
      exact E.py u (hx u hu)
    obtain ⟨qs, b1, _⟩ := plns (xs := ys.map e) (k := k) fun z hz => by
      obtain ⟨u, hu, rfl⟩ := List.mem_map.mp hz
      exact E.py u (hy u hu)
    have e1 : toPy0 (.lst (xs.map e)) = some (.list ps) := by simp [toPy0, a1]
    have e2 : toPy0 (.lst (ys.map e)) = some (.list qs) := by simp [toPy0, b1]
    unfold eqvP
    rw [e1, e2]
    show PyData.eqv (.list ps) (.list qs) = true ↔ _
    have u : PyData.eqv (.list ps) (.list qs) = PyData.eqvAll ps qs := by simp [PyData.eqv]
    rw [u]
    exact eqv_all E hx hy a1 b1
theorem enc_pair (E : Enc e ok k) (F : Enc e2 ok2 k) : Enc (fun p : β × γ => D.tup [e p.1, e2 p.2]) (fun p => ok p.1 ∧ ok2 p.2) (k + 1) := by
  refine ⟨fun p hp => pln_tup fun z hz => ?_, fun p q hp hq => ?_⟩
  · rcases List.mem_cons.mp hz with rfl | hz
    · exact E.py _ hp.1
    · rcases List.mem_cons.mp hz with rfl | hz
      · exact F.py _ hp.2
      · cases hz
  · obtain ⟨p1, a1, _⟩ := E.py _ hp.1
    obtain ⟨p2, a2, _⟩ := F.py _ hp.2
    obtain ⟨q1, b1, _⟩ := E.py _ hq.1
    obtain ⟨q2, b2, _⟩ := F.py _ hq.2
    have e1 : toPy0 (.tup [e p.1, e2 p.2]) = some (.tuple [p1, p2]) := by simp [toPy0, toPys0, a1, a2]
    have e2' : toPy0 (.tup [e q.1, e2 q.2]) = some (.tuple [q1, q2]) := by simp [toPy0, toPys0, b1, b2]
    have h1 := E.eq _ _ hp.1 hq.1
    have h2 := F.eq _ _ hp.2 hq.2
    unfold eqvP at h1 h2 ⊢
    rw [a1, b1] at h1
    rw [a2, b2] at h2
    rw [e1, e2']
    have h1' : PyData.eqv p1 q1 = true ↔ p.1 = q.1 := h1
    have h2' : PyData.eqv p2 q2 = true ↔ p.2 = q.2 := h2
    show PyData.eqv (.tuple [p1, p2]) (.tuple [q1, q2]) = true ↔ _
    have u : PyData.eqv (.tuple [p1, p2]) (.tuple [q1, q2]) = (PyData.eqv p1 q1 && PyData.eqv p2 q2) := by simp [PyData.eqv, PyData.eqvAll]
    rw [u, Bool.and_eq_true, h1', h2']
    exact ⟨fun ⟨x, y⟩ => Prod.ext x y, fun z => by rw [z]; exact ⟨rfl, rfl⟩⟩
theorem any_of (E : Enc e ok k) {x : β} {p : PyData} (hx : ok x) (hp : toPy0 (e x) = some p) : ∀ {ys : List β} {qs : List PyData}, (∀ y ∈ ys, ok y) → toPys0 (ys.map e) = some qs → (qs.any (fun z => PyData.eqv z p) = true ↔ x ∈ ys)
  | [], qs, _, h => by
    have e1 : qs = [] := by simpa [toPys0] using h.symm
    subst e1
    simp
  | y :: ys, qs, hy, h => by
    obtain ⟨q, q1, _, _⟩ := E.py y (hy y (List.mem_cons_self ..))
    obtain ⟨qs', b1, _⟩ := plns (xs := ys.map e) (k := k) fun z hz => by
      obtain ⟨u, hu, rfl⟩ := List.mem_map.mp hz
      exact E.py u (hy u (List.mem_cons_of_mem _ hu))
    have e2 : qs = q :: qs' := by
      have : toPys0 (e y :: ys.map e) = some (q :: qs') := by simp [toPys0, q1, b1]
      rw [List.map_cons, this] at h
      exact (Option.some.inj h).symm
    subst e2
    have hh := E.eq y x (hy y (List.mem_cons_self ..)) hx
    unfold eqvP at hh
    rw [q1, hp] at hh
    have hh' : PyData.eqv q p = true ↔ y = x := hh
    rw [List.any_cons, Bool.or_eq_true, hh', any_of E hx hp (fun z hz => hy z (List.mem_cons_of_mem _ hz)) b1, List.mem_cons]
    exact ⟨fun h => h.imp Eq.symm id, fun h => h.imp Eq.symm id⟩
theorem c_inl {μ : Mu} {a : D} {xs : List D} : cmpD .In μ a (.lst xs) = (match toPy μ a, toPy μ (.lst xs) with
    | some x, some (.list ys) => ite? (SeqAt.shaped x && SeqAt.shaped (.list ys)) (ys.any fun z => PyData.eqv z x)
    | _, _ => none) := by cases a <;> rfl
theorem c_nil {μ : Mu} {a : D} {xs : List D} : cmpD .NotIn μ a (.lst xs) = (match toPy μ a, toPy μ (.lst xs) with
    | some x, some (.list ys) => ite? (SeqAt.shaped x && SeqAt.shaped (.list ys)) (!ys.any fun z => PyData.eqv z x)
    | _, _ => none) := by cases a <;> rfl
/-- x in a list -/
theorem in_of [DecidableEq β] (E : Enc e ok k) (hk : k ≤ 63) {μ : Mu} {x : β} {ys : List β} (hx : ok x) (hy : ∀ y ∈ ys, ok y) : cmpD .In μ (e x) (.lst (ys.map e)) = some (decide (x ∈ ys)) := by
  obtain ⟨p, p1, p2, p3⟩ := E.py x hx
  obtain ⟨qs, b1, b2, b3, _⟩ := plns (xs := ys.map e) (k := k) fun z hz => by
    obtain ⟨u, hu, rfl⟩ := List.mem_map.mp hz
    exact E.py u (hy u hu)
  have e2 : toPy0 (.lst (ys.map e)) = some (.list qs) := by simp [toPy0, b1]
  rw [c_inl, toPy_of p1, toPy_of e2]
  have s1 := shaped_of p2 (by omega)
  have s2 : SeqAt.shaped (.list qs) = true := shaped_of (by simp [PyData.canLay0, b2]) (by simp [PyData.depth]; omega)
  show ite? (SeqAt.shaped p && SeqAt.shaped (.list qs)) (qs.any fun z => PyData.eqv z p) = _
  rw [s1, s2]
  show some (qs.any fun z => PyData.eqv z p) = _
  congr 1
  have := any_of E hx p1 hy b1
  by_cases h : x ∈ ys
  · rw [this.mpr h, decide_eq_true h]
  · rw [decide_eq_false h]
    cases q : qs.any fun z => PyData.eqv z p with
    | false => rfl
    | true => exact absurd (this.mp q) h
theorem notin_of [DecidableEq β] (E : Enc e ok k) (hk : k ≤ 63) {μ : Mu} {x : β} {ys : List β} (hx : ok x) (hy : ∀ y ∈ ys, ok y) : cmpD .NotIn μ (e x) (.lst (ys.map e)) = some (!decide (x ∈ ys)) := by
  have h := in_of (μ := μ) E hk hx hy
  rw [c_inl] at h
  rw [c_nil]
  revert h
  cases toPy μ (e x) with
  | none => exact fun h => by cases h
  | some p =>
    cases toPy μ (.lst (ys.map e)) with
    | none => exact fun h => by cases h
    | some q =>
      cases q with
      | list qs =>
        show ite? (SeqAt.shaped p && SeqAt.shaped (.list qs)) _ = _ → ite? (SeqAt.shaped p && SeqAt.shaped (.list qs)) _ = _
        cases (SeqAt.shaped p && SeqAt.shaped (.list qs)) with
        | false => exact fun h => by cases h
        | true =>
          intro h
          have h' : (qs.any fun z => PyData.eqv z p) = decide (x ∈ ys) := Option.some.inj h
          show some (!qs.any fun z => PyData.eqv z p) = _
          rw [h']
      | _ => exact fun h => by cases h
end
end Z

/-! Z21: the helpers that every law has: the generator, picks, drawn orders. -/
namespace Z
open PySem PySem.Spec PyProof.Rows L2
local macro_rules | `(tactic| and_intros) => `(tactic| simp only [denS, denR, denE, denEs, denT, denTs, denBop, denN, denO, denC, denW, Exs.isNil, tos_seq, tos_bindR, tos_nx, tos_rt, tos_bk, tos_ct, to_bind, to_noex, to_ok, to_some, to_ite, to_fit, to_map, to_obind, tob_nil, var_z, var_o, var_s, set_z, set_s, Option.map_some, Option.bind_some, b_add, b_sub, b_mul, b_div, b_mod, b_pow, b_adds, b_addl, b_mull, c_lt, c_le, c_gt, c_ge, c_is, c_isn, c_eq, c_ne, e_int, t_bl, t_int, t_lst, t_non, i_tup, i_lst, i_loc, at0, at1, at2, l_lst, m_lst, l_scr, f_int, f_len, f_lens, f_lent, f_sum, f_max2, f_min2, bt_bits, bd_bits, g_rng1, g_rng2, List.set_cons_zero, List.set_cons_succ, List.map_cons, List.map_nil, List.length_cons, List.length_nil, List.replicate, List.cons_append, List.nil_append])

def irCell : Bk := (.cons (.ife (.val (.cmp .Lt (.var 1) (.blt .len (.cons (.var 0) .nil)))) (.cons (.ret (.idx (.var 0) (.var 1))) .nil) .nil) (.cons (.ret (.bin .Mod (.blt .sum (.cons (.slc (.var 0) .no (.so (.cst (.int 1)))) .nil)) (.cst (.int 1000003)))) .nil))
def irGen (c : Nat) : Bk := (.cons (.nam 2 (.e (.call c (.cons (.var 0) (.cons (.var 1) .nil))))) (.cons (.ret (.cel (.dis (.cons (.bin .Mod (.blt .int (.cons (.blt .max2 (.cons (.bin .Sub (.var 2) (.bin .Pow (.cst (.int 10)) (.cst (.int 18)))) (.cons (.cst (.int 0)) .nil))) .nil)) (.bin .Pow (.bin .Pow (.cst (.int 10)) (.cst (.int 60))) (.cst (.int 10)))) (.cons (.bin .Mod (.blt .int (.cons (.var 2) .nil)) (.cst (.int 2147483647))) (.cons (.bin .Mult (.cst (.int 1000)) (.var 1)) .nil)))))) .nil))
def irPick (r : Nat) : Bk := (.cons (.ret (.idx (.var 1) (.call r (.cons (.var 0) (.cons (.blt .len (.cons (.var 1) .nil)) .nil))))) .nil)
def irOrder (r : Nat) : Bk := (.cons (.par 2 3 (.n (.lof (.var 1))) (.n (.dis .nil))) (.cons (.whl 1099511627776 (.val (.cmp .NotEq (.var 2) (.new (.dis .nil)))) (.cons (.apo 3 (.own 2) (.so (.call r (.cons (.var 0) (.cons (.blt .len (.cons (.var 2) .nil)) .nil))))) .nil)) (.cons (.frz 3) (.cons (.ret (.var 3)) .nil))))
section
variable {cs : List CI} {fs : List FB} {n f r hx g k : Nat} {μ : Mu} {Q : D → Mu → Prop}
theorem cut_map {α β : Type} (e : α → β) (xs : List α) (lo hi : Option Int) : cutD (xs.map e) lo hi = (cutD xs lo hi).map e := by
  unfold cutD
  rw [List.length_map, List.map_take, List.map_drop]
theorem cell_to {ns : List Int} {i : Int} (h : fs[f]? = some ⟨irCell, 2, 2⟩) (h0 : 0 ≤ i) (hq : ∀ v : Int, Q (.int v) μ) : R.To (phi cs fs (n + 1) f [.scr ns, .int i] μ) Q := by
  refine to_phi h rfl ?_
  unfold irCell
  refine tob_cons ?_
  and_intros
  by_cases hi : i < (ns.length : Nat)
  · simp only [hi, decide_true]
    refine tob_cons ?_
    and_intros
    obtain ⟨hk, e⟩ := at_in (xs := ns.map D.int) h0 (by simpa using hi)
    show R.To (R.opt (atI (ns.map D.int) i) μ) fun a μ => Q a μ
    rw [e, List.getElem_map]
    and_intros
    exact hq _
  · simp only [hi, decide_false]
    and_intros
    refine tob_cons ?_
    and_intros
    show R.To (R.opt (some (D.lst (cutD (ns.map D.int) none (some 1)))) μ) _
    rw [cut_map]
    and_intros
    rw [ints_map]
    exact ⟨by decide, hq _⟩
theorem gen_to {c : Nat} {ns : List Int} {i : Int} (hc : fs[c]? = some ⟨irCell, 2, 2⟩) (h : fs[f]? = some ⟨irGen c, 3, 2⟩) (h0 : 0 ≤ i) (h1 : i ≤ 10 ^ 9) (hq : ∀ x, GenV x (1000 * i).toNat → Q (.loc μ.length) (μ ++ [.lst x])) : R.To (phi cs fs (n + 2) f [.scr ns, .int i] μ) Q := by
  refine to_phi h rfl ?_
  unfold irGen
  refine tob_cons ?_
  and_intros
  refine cell_to hc h0 fun v => ?_
  and_intros
  refine tob_cons ?_
  and_intros
  have e60 : ((10 : Int) ^ (60 : Int).toNat) ^ (10 : Int).toNat = 10 ^ 600 := by decide +kernel
  obtain ⟨m1, m2⟩ := mod_in (i := if (0 : Int) > v - 10 ^ (18 : Int).toNat then 0 else v - 10 ^ (18 : Int).toNat) (m := 10 ^ 600) (by decide +kernel)
  obtain ⟨k1, k2⟩ := mod_in (i := v) (m := 2147483647) (by decide)
  refine ⟨by decide +kernel, by decide +kernel, by decide +kernel, by decide +kernel, by decide, mul_sz (a := 40) (b := 40) (sz_of (by omega) (by omega)) (sz_of (by omega) (by omega)) (by omega), by decide, hq _ ?_⟩
  rw [e60]
  exact ⟨_, _, _, rfl, m1, m2, k1, k2, by omega, by omega⟩
/-- one of a list's items, drawn -/
theorem pick_to {xs : List D} {x : List D} (h1 : fs[hx]? = some ⟨irHash, 3, 2⟩) (h2 : fs[r]? = some ⟨irRandom hx, 4, 2⟩) (h3 : fs[f]? = some ⟨irPick r, 2, 2⟩) (hg : μ[g]? = some (.lst x)) (hv : GenV x k) (hk : k < 10 ^ 40) (hl : 0 < xs.length) (hm : xs.length < 2 ^ 100)
    (hq : ∀ d y, d ∈ xs → GenV y (k + 101) → Q d (μ.set g (.lst y))) : R.To (phi cs fs (n + 3) f [.loc g, .lst xs] μ) Q := by
  refine to_phi h3 rfl ?_
  unfold irPick
  refine tob_cons ?_
  and_intros
  have : ((2 ^ 100 : Nat) : Int) < 2 ^ 3000 := by decide +kernel
  refine rand_to h1 h2 hg hv hk ⟨by omega, by omega⟩ fun v y v0 v1 hy => ?_
  and_intros
  obtain ⟨hk', e⟩ := at_in (xs := xs) v0 v1
  rw [e]
  and_intros
  exact hq _ _ (List.getElem_mem hk') hy
theorem order_to {xs : List D} {x : List D} (h1 : fs[hx]? = some ⟨irHash, 3, 2⟩) (h2 : fs[r]? = some ⟨irRandom hx, 4, 2⟩) (h3 : fs[f]? = some ⟨irOrder r, 4, 2⟩) (hg : μ[g]? = some (.lst x)) (hv : GenV x k) (hk : k + 101 * xs.length < 10 ^ 40) (hm : xs.length < 2 ^ 24) (hp : ∀ d ∈ xs, Pln 63 d)
    (hq : ∀ zs y, zs.Perm xs → GenV y (k + 101 * xs.length) → Q (.lst zs) (μ.set g (.lst y))) : R.To (phi cs fs (n + 3) f [.loc g, .lst xs] μ) Q := by
  have hgl : g < μ.length := (List.getElem?_eq_some_iff.mp hg).1
  refine to_phi h3 rfl ?_
  unfold irOrder
  refine tob_cons ?_
  and_intros
  refine ⟨by decide, ?_⟩
  refine tob_cons ?_
  show RS.To (whlGo _ _ 1099511627776 _ _) _
  refine whl_to (fun m ρ μ' => ∃ left found y, ρ = [.val (.loc g), .val (.lst xs), .own left, .own found] ∧ μ' = μ.set g (.lst y) ∧ GenV y (k + 101 * found.length) ∧ (found ++ left).Perm xs ∧ m = left.length) ?_ _ xs.length _ _ (by omega) ⟨xs, [], x, rfl, (set_self hg).symm, by simpa using hv, by simp, rfl⟩
  rintro m ρ μ' ⟨left, found, y, rfl, rfl, hy, hpm, rfl⟩
  have hlen : found.length + left.length = xs.length := by rw [← hpm.length_eq, List.length_append]
  have hg' : (μ.set g (.lst y))[g]? = some (.lst y) := List.getElem?_set_self hgl
  and_intros
  rw [eq_nil fun d hd => hp d (hpm.subset (List.mem_append_right _ hd))]
  and_intros
  cases left with
  | nil =>
    simp only [List.isEmpty_nil, Bool.not_true]
    refine ⟨by decide, tob_cons ?_⟩
    refine frz_to rfl ?_
    and_intros
    refine tob_cons ?_
    and_intros
    have e : found.length = xs.length := by simpa using hlen
    rw [e] at hy
    exact hq _ _ (by simpa using hpm) hy
  | cons d left =>
    simp only [List.isEmpty_cons, Bool.not_false]
    refine ⟨by decide, tob_cons ?_⟩
    refine apo_to rfl (chg_own rfl ?_)
    and_intros
    have hl2 : ((d :: left).length : Int) < 2 ^ 3000 := by
      have : ((2 ^ 24 : Nat) : Int) < 2 ^ 3000 := by decide +kernel
      omega
    simp only [List.length_cons] at hl2 hlen
    refine rand_to h1 h2 hg' hy (by omega) ⟨by omega, by omega⟩ fun v y2 v0 v1 hy2 => ?_
    and_intros
    obtain ⟨hk', e1, e2⟩ := pop_in (xs := d :: left) v0 (by rw [List.length_cons]; exact v1) (by rw [List.length_cons]; omega)
    refine ⟨_, _, e1, e2, found, rfl, by show found.length < 2 ^ 24; omega, left.length, by simp, (d :: left).eraseIdx v.toNat, found ++ [(d :: left)[v.toNat]], y2, rfl, by rw [List.set_set], hy2.mono (by rw [List.length_append, List.length_singleton]; omega), ?_, by rw [List.length_eraseIdx_of_lt hk', List.length_cons]; rfl⟩
    rw [List.append_assoc]
    exact (List.Perm.append_left found (erase_perm hk')).trans hpm
end
end Z

/-! Z22: further rules for running an IR by hand. -/
namespace Z
open PySem PySem.Spec PyProof.Rows L2
section
variable {μ : Mu} {xs ys : List D} {lo hi : Option Int} {t u : Ty} {i j k : Int} {x : Str} {b : Bool}
theorem s_lst : slcD μ (.lst xs) lo hi = some (.lst (Z.cutD xs lo hi)) := rfl
theorem ld_lst : listD (.lst xs) = some xs := rfl
theorem ok_lst : Ty.ok μ (.lst xs) = true := rfl
theorem ok_tup : Ty.ok μ (.tup xs) = true := rfl
theorem ok_int : Ty.ok μ (.int i) = true := rfl
theorem ok_str : Ty.ok μ (.str x) = true := rfl
theorem ok_bl : Ty.ok μ (.bl b) = true := rfl
theorem ok_non : Ty.ok μ .non = true := rfl
theorem is_ll : Ty.is .list μ (.lst xs) = true := rfl
theorem is_tt : Ty.is .tuple μ (.tup xs) = true := rfl
theorem is_lt : Ty.is .list μ (.tup xs) = false := rfl
theorem is_tl : Ty.is .tuple μ (.lst xs) = false := rfl
theorem is_li : Ty.is .list μ (.int i) = false := rfl
theorem is_ti : Ty.is .tuple μ (.int i) = false := rfl
theorem is_si : Ty.is .str μ (.int i) = false := rfl
theorem is_bi : Ty.is .bool μ (.int i) = false := rfl
theorem is_ii : Ty.is .int μ (.int i) = true := rfl
theorem is_ss : Ty.is .str μ (.str x) = true := rfl
theorem is_ls : Ty.is .list μ (.str x) = false := rfl
theorem is_ts : Ty.is .tuple μ (.str x) = false := rfl
theorem f_isiL {d : D} : biD (.isi t) μ [d] = ite? (Ty.ok μ d) (.bl (t.is μ d)) := rfl
theorem f_lenT : biD .len μ [.tup xs] = some (.int (xs.length : Nat)) := rfl
theorem f_srt {l : List Int} : biD .sorted μ [.lst (l.map .int)] = some (.lst ((isrt leI l).map .int)) := by
  show ((sortD (l.map .int)).map D.lst) = _
  unfold sortD
  rw [ints_map]; rfl
theorem prs_map : ∀ l : List (Int × Int), prsD (l.map eP) = some l
  | [] => rfl
  | p :: l => by
    show (prsD (l.map eP)).map _ = _
    rw [prs_map l]; rfl
theorem f_srtP {l : List (Int × Int)} : biD .sorted μ [.lst (l.map eP)] = some (.lst ((isrt leP l).map eP)) := by
  show ((sortD (l.map eP)).map D.lst) = _
  cases l with
  | nil => rfl
  | cons p l =>
    unfold sortD
    have e1 : intsD ((p :: l).map eP) = none := rfl
    rw [e1, prs_map]
    rfl
theorem strs_map' : ∀ l : List Str, strsD (l.map .str) = some l
  | [] => rfl
  | i :: l => by
    show (strsD (l.map .str)).map _ = _
    rw [strs_map' l]; rfl
theorem f_srtS {l : List Str} (h : l.length < 64) : biD .sorted μ [.lst (l.map .str)] = some (.lst ((isrt leS l).map .str)) := by
  show ((sortD (l.map .str)).map D.lst) = _
  cases l with
  | nil => rfl
  | cons p l =>
    unfold sortD
    have e1 : intsD ((p :: l).map D.str) = none := rfl
    have e2 : prsD ((p :: l).map D.str) = none := rfl
    rw [e1, e2, strs_map']
    simp only
    rw [decide_eq_true h]
    rfl
theorem f_tup : biD .tuple μ [.lst xs] = some (.tup xs) := rfl
theorem bls_map : ∀ l : List Bool, blsD (l.map .bl) = some l
  | [] => rfl
  | i :: l => by
    show (blsD (l.map .bl)).map _ = _
    rw [bls_map l]; rfl
theorem f_all {l : List Bool} : biD .all μ [.lst (l.map .bl)] = some (.bl (l.all id)) := by
  show ((blsD (l.map .bl)).map fun l => D.bl (l.all id)) = _
  rw [bls_map]; rfl
theorem f_max1 {e : Int} {es : List Int} : biD .max μ [.lst ((e :: es).map .int)] = some (.int (maxI e es)) := by
  show (match (intsD ((e :: es).map .int)) with
    | some (m :: r) => some (D.int (maxI m r))
    | _ => none) = _
  rw [ints_map]
theorem f_min1 {e : Int} {es : List Int} : biD .min μ [.lst ((e :: es).map .int)] = some (.int (minI e es)) := by
  show (match (intsD ((e :: es).map .int)) with
    | some (m :: r) => some (D.int (minI m r))
    | _ => none) = _
  rw [ints_map]
theorem f_sumI {l : List Int} : biD .sum μ [.lst (l.map .int)] = some (.int l.sum) := by
  show ((intsD (l.map .int)).map fun l => D.int l.sum) = _
  rw [ints_map]; rfl
theorem bt_idx : bmTy .index μ (.lst xs) = true := rfl
theorem bd_idx {l : List Int} : bmD .index μ (.lst (l.map .int)) [.int i] = (ixInt i l).map fun n => .int (n : Nat) := by
  show ((intsD (l.map .int)).bind fun l => (ixInt i l).map fun n => D.int (n : Nat)) = _
  rw [ints_map]; rfl
theorem g_rng3 : rngD [.int i, .int j, .int k] = ite? (decide (k = -1) && rngOk i && rngOk j) (dwnItems i (i - j).toNat) := rfl
theorem g_lrg1 : lrgD [.int j] = ite? (rngOk j && fits j.toNat) (rngItems 0 j.toNat) := rfl
theorem e_bl {a b : Bool} : eqD μ (.bl a) (.bl b) = some (decide (a = b)) := by
  show some (PyData.eqv (.bool a) (.bool b)) = _
  congr 1
theorem e_str {y : Str} (h1 : (PyData.str x).canLay0 = true) (h2 : (PyData.str y).canLay0 = true) : eqD μ (.str x) (.str y) = some (decide (x = y)) := enc_str.eqD (by omega) h1 h2
theorem l_map {α : Type} {f : α → D} {l : List α} : asL μ (.lst (l.map f)) = some (l.map f) := rfl
theorem enu_zip {α : Type} {f : α → D} : ∀ (l : List α) (k : Nat), enuItems k (l.map f) = (l.zipIdx k).map fun p => .tup [.int (p.2 : Nat), f p.1]
  | [], _ => rfl
  | x :: l, k => by
    show _ :: enuItems (k + 1) (l.map f) = _
    rw [enu_zip l (k + 1)]; rfl
theorem zip_map {α β : Type} {f : α → D} {g : β → D} : ∀ (l : List α) (m : List β), zipItems (l.map f) (m.map g) = (l.zip m).map fun p => .tup [f p.1, g p.2]
  | [], _ => rfl
  | _ :: _, [] => rfl
  | x :: l, y :: m => by
    show _ :: zipItems (l.map f) (m.map g) = _
    rw [zip_map l m]; rfl
theorem rev_map {α : Type} {f : α → D} {l : List α} : (l.map f).reverse = l.reverse.map f := List.map_reverse.symm
theorem rng_map {n : Nat} : rngItems 0 n = (List.range n).map fun (k : Nat) => D.int (k : Int) := by
  unfold rngItems
  exact List.map_congr_left fun k _ => by rw [Int.zero_add]
theorem at_get {α : Type} {f : α → D} {l : List α} {k : Nat} (d : α) (h : k < l.length) : atI (l.map f) (k : Int) = some (f (l.getD k d)) := by
  have hk : k < (l.map f).length := by rw [List.length_map]; exact h
  rw [at_nat hk, List.getElem_map, List.getD_eq_getElem?_getD, List.getElem?_eq_getElem h]
  rfl
end
theorem tos_cut {r : RS} {E : Ek} (I : Rho → Mu → Prop) (h : RS.To r { nx := I, rt := E.rt, bk := E.bk, ct := E.ct }) (k : ∀ ρ μ, I ρ μ → E.nx ρ μ) : RS.To r E := by
  cases r with
  | nx ρ μ => exact k ρ μ h
  | _ => exact h
/-- a comprehension without a test whose turns change nothing -/
theorem cmp_all {put : D → Rho → Option Rho} {elt : Rho → Mu → R D} {β : Type} {ρ : Rho} {μ : Mu} (e : β → D) (f : β → D) {Q : List D → Mu → Prop} {ys : List β} (hs : ∀ y ∈ ys, ∃ ρ1, put (e y) ρ = some ρ1 ∧ R.To (elt ρ1 μ) fun d μ' => d = f y ∧ μ' = μ) (hl : ys.length ≤ 10000)
    (h : Q (ys.map f) μ) : R.To (compGo put (fun _ μ => R.ok true μ) elt ρ (ys.map e) [] μ) Q := by
  refine cmp_to e (fun _ => true) f ys [] (fun y hy => ?_) (by show 0 + ys.length ≤ 2 ^ 24; omega) ?_
  · obtain ⟨ρ1, h1, h2⟩ := hs y hy
    exact ⟨ρ1, h1, ⟨rfl, rfl⟩, fun _ => h2⟩
  · rw [List.nil_append, List.filter_eq_self.mpr fun _ _ => rfl]
    exact h
/-- the same, of ints -/
theorem cmp_int {put : D → Rho → Option Rho} {elt : Rho → Mu → R D} {β : Type} {ρ : Rho} {μ : Mu} (e : β → D) (g : β → Int) {Q : List D → Mu → Prop} {ys : List β} (hs : ∀ y ∈ ys, ∃ ρ1, put (e y) ρ = some ρ1 ∧ R.To (elt ρ1 μ) fun d μ' => d = .int (g y) ∧ μ' = μ) (hl : ys.length ≤ 10000)
    (h : Q ((ys.map g).map .int) μ) : R.To (compGo put (fun _ μ => R.ok true μ) elt ρ (ys.map e) [] μ) Q := by
  refine cmp_all e (fun y => .int (g y)) hs hl ?_
  have : (ys.map fun y => D.int (g y)) = (ys.map g).map .int := by rw [List.map_map]; rfl
  rw [this]
  exact h
/-- a comprehension with a test -/
theorem cmp_flt {put : D → Rho → Option Rho} {tst : Rho → Mu → R Bool} {elt : Rho → Mu → R D} {β : Type} {ρ : Rho} {μ : Mu} (e : β → D) (p : β → Bool) (f : β → D) {Q : List D → Mu → Prop} {ys : List β} (hs : ∀ y ∈ ys, ∃ ρ1, put (e y) ρ = some ρ1 ∧ R.To (tst ρ1 μ) (fun k μ' => k = p y ∧ μ' = μ) ∧ (p y = true → R.To (elt ρ1 μ) fun d μ' => d = f y ∧ μ' = μ)) (hl : ys.length ≤ 10000)
    (h : Q ((ys.filter p).map f) μ) : R.To (compGo put tst elt ρ (ys.map e) [] μ) Q := by
  refine cmp_to e p f ys [] hs (by show 0 + ys.length ≤ 2 ^ 24; omega) ?_
  rw [List.nil_append]
  exact h
/-- a comprehension whose turns change the cells -/
theorem cmp_st {put : D → Rho → Option Rho} {elt : Rho → Mu → R D} {ρ : Rho} {Q : List D → Mu → Prop} (I : Nat → List D → Mu → Prop) : ∀ (xs : List D) (j : Nat) (acc : List D) (μ : Mu), I j acc μ → acc.length + xs.length ≤ 10000 →
    (∀ (i : Nat) (x : D) acc μ, xs[i]? = some x → I (j + i) acc μ → ∃ ρ1, put x ρ = some ρ1 ∧ R.To (elt ρ1 μ) fun d μ' => I (j + i + 1) (acc ++ [d]) μ') → (∀ acc μ, I (j + xs.length) acc μ → Q acc μ) → R.To (compGo put (fun _ μ => R.ok true μ) elt ρ xs acc μ) Q
  | [], j, acc, μ, h, _, _, he => he acc μ h
  | x :: xs, j, acc, μ, h, hl, hs, he => by
    obtain ⟨ρ1, e, hb⟩ := hs 0 x acc μ rfl h
    have hl' : acc.length + (xs.length + 1) ≤ 10000 := hl
    show R.To (match put x ρ with
      | none => .bad
      | some ρ1 => (R.ok true μ).noex.bind fun b μ1 => match b with
        | true => (elt ρ1 μ1).noex.bind fun d μ2 => if fits (acc.length + 1) then compGo put (fun _ μ => R.ok true μ) elt ρ xs (acc ++ [d]) μ2 else .bad
        | false => compGo put (fun _ μ => R.ok true μ) elt ρ xs acc μ1) Q
    rw [e]
    show R.To ((elt ρ1 μ).noex.bind fun d μ2 => if fits (acc.length + 1) then compGo put (fun _ μ => R.ok true μ) elt ρ xs (acc ++ [d]) μ2 else .bad) Q
    rw [to_bind, to_noex]
    refine R.To.mono hb fun d μ2 h2 => ?_
    rw [if_pos (show fits (acc.length + 1) = true from decide_eq_true (by show _ ≤ 2 ^ 24; omega))]
    refine cmp_st I xs (j + 1) (acc ++ [d]) μ2 h2 (by rw [List.length_append]; show acc.length + 1 + _ ≤ _; omega) (fun i y acc μ ey hi => ?_) fun acc μ h' => he acc μ (by rw [List.length_cons, show j + (xs.length + 1) = j + 1 + xs.length by omega]; exact h')
    have := hs (i + 1) y acc μ (by simpa using ey) (by rw [show j + (i + 1) = j + 1 + i by omega]; exact hi)
    rw [show j + (i + 1) + 1 = j + 1 + i + 1 by omega] at this
    exact this
end Z

namespace Lk89
open PySem PySem.Spec PyProof.Rows L2 Z
def top (i : Nat) : Stmt := PySem.Challenge.pw_joborders_k89_whole_days_and_ovens_many.main.body.getD i (.Pass ⟨0, 0, 0, 0⟩)
/-- is_whole -/
def ir0 : Bk := (.cons (.ret (.bop .And (.cons (.blt (.isi .int) (.cons (.var 0) .nil)) (.cons (.not (.blt (.isi .bool) (.cons (.var 0) .nil))) .nil)))) .nil)
/-- is_count -/
def ir1 : Bk := (.cons (.ret (.bop .And (.cons (.call 0 (.cons (.var 0) .nil)) (.cons (.cmp .GtE (.var 0) (.cst (.int 0))) .nil)))) .nil)
/-- is_below -/
def ir2 : Bk := (.cons (.ret (.bop .And (.cons (.call 1 (.cons (.var 0) .nil)) (.cons (.cmp .Lt (.var 0) (.var 1)) .nil)))) .nil)
/-- are_counts -/
def ir3 : Bk := (.cons (.ife (.bop .Or (.cons (.not (.val (.blt (.isi .list) (.cons (.var 0) .nil)))) (.cons (.val (.cmp .NotEq (.blt .len (.cons (.var 0) .nil)) (.var 1))) .nil))) (.cons (.ret (.cst (.bl false))) .nil) .nil) (.cons (.ret (.cmp .Eq (.new (.cmp [4] (.var 4) (.nam 4) (.lst (.var 0)) (.te (.bop .Or (.cons (.not (.val (.call 1 (.cons (.var 4) .nil)))) (.cons (.not (.val (.chn .LtE .LtE (.var 2) (.var 4) (.var 3)))) .nil)))))) (.new (.dis .nil)))) .nil))
/-- are_times -/
def ir4 : Bk := (.cons (.ret (.bop .And (.cons (.blt (.isi .list) (.cons (.var 0) .nil)) (.cons (.chn .LtE .LtE (.cst (.int 1)) (.blt .len (.cons (.var 0) .nil)) (.gbl "MOST_JOBS" (.int 12))) (.cons (.call 3 (.cons (.var 0) (.cons (.blt .len (.cons (.var 0) .nil)) (.cons (.cst (.int 1)) (.cons (.gbl "MOST_TIME" (.int 1000)) .nil))))) .nil))))) .nil)
/-- check_times -/
def ir5 : Bk := (.cons (.ife (.not (.val (.call 4 (.cons (.var 0) .nil)))) (.cons .nev .nil) .nil) .nil)
/-- are_weights_of -/
def ir6 : Bk := (.cons (.ret (.call 3 (.cons (.var 1) (.cons (.var 0) (.cons (.cst (.int 0)) (.cons (.gbl "MOST_WEIGHT" (.int 1000)) .nil)))))) .nil)
/-- check_weights -/
def ir7 : Bk := (.cons (.ife (.not (.val (.call 6 (.cons (.var 0) (.cons (.var 1) .nil))))) (.cons .nev .nil) .nil) .nil)
/-- are_moments_of -/
def ir8 : Bk := (.cons (.ret (.call 3 (.cons (.var 1) (.cons (.var 0) (.cons (.cst (.int 0)) (.cons (.gbl "LAST_TIME" (.int 100000)) .nil)))))) .nil)
/-- check_dues -/
def ir9 : Bk := (.cons (.ife (.not (.val (.call 8 (.cons (.var 0) (.cons (.var 1) .nil))))) (.cons .nev .nil) .nil) .nil)
/-- sum_over -/
def ir10 : Bk := (.cons (.ret (.blt .sum (.cons (.new (.cmp [2] (.idx (.var 0) (.var 2)) (.nam 2) (.lst (.var 1)) .no)) .nil))) .nil)
/-- are_machines -/
def ir11 : Bk := (.cons (.ret (.bop .And (.cons (.call 0 (.cons (.var 0) .nil)) (.cons (.chn .LtE .LtE (.cst (.int 1)) (.var 0) (.gbl "MOST_MACHINES" (.int 8))) .nil)))) .nil)
/-- check_machines -/
def ir12 : Bk := (.cons (.ife (.not (.val (.call 11 (.cons (.var 0) .nil)))) (.cons .nev .nil) .nil) .nil)
/-- check_machine_case -/
def ir13 : Bk := (.cons (.exp (.call 5 (.cons (.var 0) .nil))) (.cons (.exp (.call 12 (.cons (.var 1) .nil))) .nil))
/-- least_sum_of -/
def ir14 : Bk := (.cons (.nam 2 (.e (.rev (.blt .sorted (.cons (.var 0) .nil))))) (.cons (.ret (.blt .sum (.cons (.new (.cmp [3, 4] (.bin .Mult (.var 4) (.bin .Add (.bin .FloorDiv (.var 3) (.var 1)) (.cst (.int 1)))) (.tup (.cons (.nam 3) (.cons (.nam 4) .nil))) (.enu (.var 2)) .no)) .nil))) .nil))
/-- least_sum -/
def ir15 : Bk := (.cons (.exp (.call 13 (.cons (.var 0) (.cons (.var 1) .nil)))) (.cons (.ret (.call 14 (.cons (.var 0) (.cons (.var 1) .nil)))) .nil))
/-- Steps.__init__ -/
def ir16 : Bk := (.cons (.att (.var 0) 4 (.var 1)) (.cons (.att (.var 0) 5 (.cel (.dis .nil))) (.cons (.att (.var 0) 6 (.new (.dis .nil))) (.cons (.att (.var 0) 7 (.cel (.dis .nil))) .nil))))
/-- Steps.done -/
def ir17 : Bk := (.cons (.app (.ref (.att (.var 0) 5)) (.att (.var 0) 4)) (.cons (.att (.var 0) 6 (.new (.dis .nil))) (.cons (.att (.var 0) 4 (.var 1)) .nil)))
/-- Steps.end -/
def ir18 : Bk := (.cons (.ife (.val (.cmp .Eq (.att (.var 0) 7) (.new (.dis .nil)))) (.cons .nev .nil) .nil) (.cons (.att (.var 0) 6 (.new (.dis .nil))) (.cons (.rpo (.ref (.att (.var 0) 7)) .no) .nil)))
/-- Steps.apart -/
def ir19 : Bk := (.cons (.ret (.make 0 (.cons (.att (.var 0) 4) .nil))) .nil)
/-- is_job_name -/
def ir20 : Bk := (.cons (.ife (.bop .Or (.cons (.not (.val (.blt (.isi .str) (.cons (.var 0) .nil)))) (.cons (.not (.val (.chn .LtE .LtE (.cst (.int 1)) (.blt .len (.cons (.var 0) .nil)) (.cst (.int 12))))) .nil))) (.cons (.ret (.cst (.bl false))) .nil) .nil) (.cons (.ret (.cmp .Eq (.new (.cmp [1] (.var 1) (.nam 1) (.str (.var 0)) (.te (.val (.cmp .NotIn (.var 1) (.gbl "JOB_LETTERS" (.str "abcdefghijklmnopqrstuvwxyz"))))))) (.new (.dis .nil)))) .nil))
/-- is_time -/
def ir21 : Bk := (.cons (.ret (.bop .And (.cons (.call 0 (.cons (.var 0) .nil)) (.cons (.chn .LtE .LtE (.cst (.int 1)) (.var 0) (.gbl "MOST_TIME" (.int 1000))) .nil)))) .nil)
/-- written -/
def ir22 : Bk := (.cons (.ret (.bin .Add (.bmt .join (.cst (.str " ")) (.cons (.new (.cmp [1] (.blt .str (.cons (.var 1) .nil)) (.nam 1) (.lst (.var 0)) .no)) .nil)) (.cst (.str "\n")))) .nil)
/-- Day.__init__ -/
def ir23 : Bk := (.cons (.att (.var 0) 4 (.var 1)) (.cons (.att (.var 0) 8 (.var 2)) (.cons (.att (.var 0) 9 (.var 3)) (.cons (.att (.var 0) 10 (.var 4)) (.cons (.att (.var 0) 11 (.var 5)) .nil)))))
/-- Day.names -/
def ir24 : Bk := (.cons (.nam 1 (.e (.new (.cmp [2] (.idx (.var 2) (.cst (.int 0))) (.nam 2) (.lst (.att (.var 0) 8)) (.te (.val (.cmp .IsNot (.var 2) (.cst .non)))))))) (.cons (.ret (.bin .Add (.bin .Add (.var 1) (.new (.cmp [2] (.idx (.var 2) (.cst (.int 0))) (.nam 2) (.lst (.att (.var 0) 9)) .no))) (.new (.cmp [2] (.idx (.var 2) (.cst (.int 0))) (.nam 2) (.lst (.att (.var 0) 10)) .no)))) .nil))
/-- Day.with_waiting -/
def ir25 : Bk := (.cons (.ret (.make 1 (.cons (.att (.var 0) 4) (.cons (.att (.var 0) 8) (.cons (.var 1) (.cons (.att (.var 0) 10) (.cons (.bin .Add (.att (.var 0) 11) (.call 22 (.cons (.var 2) .nil))) .nil))))))) .nil)
/-- Day.begun -/
def ir26 : Bk := (.cons (.nam 1 (.n (.lof (.att (.var 0) 8)))) (.cons (.nam 2 (.e (.new (.lof (.att (.var 0) 9))))) (.cons (.for (.tup (.cons (.nam 3) (.cons (.nam 4) .nil))) (.enu (.new (.lof (.var 1)))) (.cons (.ife (.bop .And (.cons (.val (.cmp .Is (.var 4) (.cst .non))) (.cons (.val (.cmp .NotEq (.var 2) (.new (.dis .nil)))) .nil))) (.cons (.nam 5 (.e (.call 31 (.cons (.var 2) .nil)))) (.cons (.sub (.own 1) (.var 3) (.tup (.cons (.idx (.idx (.var 2) (.var 5)) (.cst (.int 0))) (.cons (.bin .Add (.att (.var 0) 4) (.idx (.idx (.var 2) (.var 5)) (.cst (.int 1)))) .nil)))) (.cons (.nam 2 (.e (.bin .Add (.slc (.var 2) .no (.so (.var 5))) (.slc (.var 2) (.so (.bin .Add (.var 5) (.cst (.int 1)))) .no)))) .nil))) .nil) .nil)) (.cons (.frz 1) (.cons (.ret (.make 1 (.cons (.att (.var 0) 4) (.cons (.var 1) (.cons (.var 2) (.cons (.att (.var 0) 10) (.cons (.att (.var 0) 11) .nil))))))) .nil)))))
/-- Day.at_moment -/
def ir27 : Bk := (.cons (.nam 2 (.e (.new (.cmp [4] (.var 4) (.nam 4) (.lst (.att (.var 0) 8)) (.te (.bop .And (.cons (.val (.cmp .IsNot (.var 4) (.cst .non))) (.cons (.val (.cmp .LtE (.idx (.var 4) (.cst (.int 1))) (.var 1))) .nil)))))))) (.cons (.nam 3 (.e (.new (.cmp [4] (.ite (.bop .And (.cons (.val (.cmp .IsNot (.var 4) (.cst .non))) (.cons (.val (.cmp .LtE (.idx (.var 4) (.cst (.int 1))) (.var 1))) .nil))) (.cst .non) (.var 4)) (.nam 4) (.lst (.att (.var 0) 8)) .no)))) (.cons (.ret (.make 1 (.cons (.var 1) (.cons (.var 3) (.cons (.att (.var 0) 9) (.cons (.bin .Add (.att (.var 0) 10) (.var 2)) (.cons (.att (.var 0) 11) .nil))))))) .nil)))
/-- Day.next_end -/
def ir28 : Bk := (.cons (.nam 1 (.e (.new (.cmp [2] (.idx (.var 2) (.cst (.int 1))) (.nam 2) (.lst (.att (.var 0) 8)) (.te (.val (.cmp .IsNot (.var 2) (.cst .non)))))))) (.cons (.ret (.ite (.val (.cmp .NotEq (.var 1) (.new (.dis .nil)))) (.blt .min (.cons (.var 1) .nil)) (.cst .non))) .nil))
/-- Day.passed -/
def ir29 : Bk := (.cons (.nam 2 (.e (.var 0))) (.cons (.nam 3 (.e (.bin .Add (.att (.var 0) 4) (.var 1)))) (.cons (.nam 4 (.e (.meth (.var 2) 18 .nil))) (.cons (.whl 1099511627776 (.bop .And (.cons (.val (.cmp .IsNot (.var 4) (.cst .non))) (.cons (.val (.cmp .LtE (.var 4) (.var 3))) .nil))) (.cons (.nam 2 (.e (.meth (.meth (.var 2) 19 (.cons (.var 4) .nil)) 20 .nil))) (.cons (.nam 4 (.e (.meth (.var 2) 18 .nil))) .nil))) (.cons (.nam 2 (.e (.meth (.var 2) 19 (.cons (.var 3) .nil)))) (.cons (.ret (.make 1 (.cons (.var 3) (.cons (.att (.var 2) 8) (.cons (.att (.var 2) 9) (.cons (.att (.var 2) 10) (.cons (.bin .Add (.att (.var 0) 11) (.call 22 (.cons (.new (.dis (.cons (.cst (.str "pass")) (.cons (.var 1) .nil)))) .nil))) .nil))))))) .nil))))))
/-- Day.finished -/
def ir30 : Bk := (.cons (.nam 1 (.e (.var 0))) (.cons (.nam 2 (.e (.meth (.var 1) 18 .nil))) (.cons (.whl 1099511627776 (.val (.cmp .IsNot (.var 2) (.cst .non))) (.cons (.nam 1 (.e (.meth (.meth (.var 1) 19 (.cons (.var 2) .nil)) 20 .nil))) (.cons (.nam 2 (.e (.meth (.var 1) 18 .nil))) .nil))) (.cons (.ret (.var 1)) .nil))))
/-- shortest -/
def ir31 : Bk := (.cons (.nam 1 (.e (.cst (.int 0)))) (.cons (.for (.tup (.cons (.nam 2) (.cons (.nam 3) .nil))) (.enu (.var 0)) (.cons (.ife (.val (.cmp .Lt (.idx (.var 3) (.cst (.int 1))) (.idx (.idx (.var 0) (.var 1)) (.cst (.int 1))))) (.cons (.nam 1 (.e (.var 2))) .nil) .nil) .nil)) (.cons (.ret (.var 1)) .nil)))
/-- House.__init__ -/
def ir32 : Bk := (.cons (.ife (.not (.val (.call 11 (.cons (.var 1) .nil)))) (.cons .nev .nil) .nil) (.cons (.att (.var 0) 12 (.make 0 (.cons (.make 1 (.cons (.cst (.int 0)) (.cons (.bin .Mult (.new (.dis (.cons (.cst .non) .nil))) (.var 1)) (.cons (.new (.dis .nil)) (.cons (.new (.dis .nil)) (.cons (.cst (.str "")) .nil)))))) .nil))) .nil))
/-- House.moment -/
def ir33 : Bk := (.cons (.ret (.att (.att (.att (.var 0) 12) 4) 4)) .nil)
/-- House.running -/
def ir34 : Bk := (.cons (.ret (.new (.lof (.att (.att (.att (.var 0) 12) 4) 8)))) .nil)
/-- House.waiting -/
def ir35 : Bk := (.cons (.ret (.new (.lof (.att (.att (.att (.var 0) 12) 4) 9)))) .nil)
/-- House.done -/
def ir36 : Bk := (.cons (.ret (.new (.lof (.att (.att (.att (.var 0) 12) 4) 10)))) .nil)
/-- House.forecast -/
def ir37 : Bk := (.cons (.nam 1 (.e (.att (.att (.var 0) 12) 4))) (.cons (.ret (.slc (.att (.meth (.var 1) 21 .nil) 10) (.so (.blt .len (.cons (.att (.var 1) 10) .nil))) .no)) .nil))
/-- House.sum_of_ends -/
def ir38 : Bk := (.cons (.ret (.blt .sum (.cons (.new (.cmp [1] (.idx (.var 1) (.cst (.int 1))) (.nam 1) (.lst (.att (.meth (.att (.att (.var 0) 12) 4) 21 .nil) 10)) .no)) .nil))) .nil)
/-- House.log -/
def ir39 : Bk := (.cons (.ret (.att (.att (.att (.var 0) 12) 4) 11)) .nil)
/-- House.come -/
def ir40 : Bk := (.cons (.nam 3 (.e (.att (.att (.var 0) 12) 4))) (.cons (.ife (.bop .Or (.cons (.not (.val (.call 20 (.cons (.var 1) .nil)))) (.cons (.val (.cmp .In (.var 1) (.meth (.var 3) 22 .nil))) .nil))) (.cons .nev .nil) .nil) (.cons (.ife (.not (.val (.call 21 (.cons (.var 2) .nil)))) (.cons .nev .nil) .nil) (.cons (.ife (.val (.cmp .Eq (.blt .len (.cons (.meth (.var 3) 22 .nil) .nil)) (.gbl "MOST_NAMES" (.int 60)))) (.cons .nev .nil) .nil) (.cons (.exp (.meth (.att (.var 0) 12) 10 (.cons (.meth (.meth (.var 3) 23 (.cons (.bin .Add (.att (.var 3) 9) (.new (.dis (.cons (.tup (.cons (.var 1) (.cons (.var 2) .nil))) .nil)))) (.cons (.new (.dis (.cons (.cst (.str "come")) (.cons (.var 1) (.cons (.var 2) .nil))))) .nil))) 20 .nil) .nil))) .nil)))))
/-- House.wait -/
def ir41 : Bk := (.cons (.ife (.bop .Or (.cons (.not (.val (.call 2 (.cons (.var 1) (.cons (.cst (.int 100001)) .nil))))) (.cons (.val (.cmp .Eq (.var 1) (.cst (.int 0)))) .nil))) (.cons .nev .nil) .nil) (.cons (.exp (.meth (.att (.var 0) 12) 10 (.cons (.meth (.att (.att (.var 0) 12) 4) 24 (.cons (.var 1) .nil)) .nil))) .nil))
/-- is_pair -/
def ir42 : Bk := (.cons (.ife (.bop .Or (.cons (.not (.val (.blt (.isi .tuple) (.cons (.var 1) .nil)))) (.cons (.val (.cmp .NotEq (.blt .len (.cons (.var 1) .nil)) (.cst (.int 2)))) .nil))) (.cons (.ret (.cst (.bl false))) .nil) .nil) (.cons (.ret (.bop .And (.cons (.call 2 (.cons (.idx (.var 1) (.cst (.int 0))) (.cons (.var 0) .nil))) (.cons (.call 2 (.cons (.idx (.var 1) (.cst (.int 1))) (.cons (.var 0) .nil))) (.cons (.cmp .NotEq (.idx (.var 1) (.cst (.int 0))) (.idx (.var 1) (.cst (.int 1)))) .nil))))) .nil))
/-- reach_of -/
def ir43 : Bk := (.cons (.nam 2 (.n (.cmp [4] (.new (.cmp [5] (.cmp .In (.tup (.cons (.var 4) (.cons (.var 5) .nil))) (.var 1)) (.nam 5) (.rng (.cons (.var 0) .nil)) .no)) (.nam 4) (.rng (.cons (.var 0) .nil)) .no))) (.cons (.for (.nam 3) (.rng (.cons (.var 0) .nil)) (.cons (.for (.nam 4) (.rng (.cons (.var 0) .nil)) (.cons (.ife (.val (.idx (.idx (.var 2) (.var 4)) (.var 3))) (.cons (.sub (.own 2) (.var 4) (.new (.cmp [5] (.bop .Or (.cons (.idx (.idx (.var 2) (.var 4)) (.var 5)) (.cons (.idx (.idx (.var 2) (.var 3)) (.var 5)) .nil))) (.nam 5) (.rng (.cons (.var 0) .nil)) .no))) .nil) .nil) .nil)) .nil)) (.cons (.frz 2) (.cons (.ret (.var 2)) .nil))))
/-- is_order_of -/
def ir44 : Bk := (.cons (.ife (.bop .Or (.cons (.not (.val (.blt (.isi .list) (.cons (.var 1) .nil)))) (.cons (.val (.cmp .NotEq (.new (.cmp [5] (.var 5) (.nam 5) (.lst (.var 1)) (.te (.not (.val (.call 42 (.cons (.var 0) (.cons (.var 5) .nil)))))))) (.new (.dis .nil)))) .nil))) (.cons (.ret (.cst (.bl false))) .nil) .nil) (.cons (.ife (.val (.cmp .NotEq (.new (.cmp [3] (.var 3) (.nam 3) (.rng (.cons (.cst (.int 1)) (.cons (.blt .len (.cons (.var 1) .nil)) .nil))) (.te (.val (.cmp .GtE (.idx (.var 1) (.bin .Sub (.var 3) (.cst (.int 1)))) (.idx (.var 1) (.var 3))))))) (.new (.dis .nil)))) (.cons (.ret (.cst (.bl false))) .nil) .nil) (.cons (.nam 2 (.e (.call 43 (.cons (.var 0) (.cons (.var 1) .nil))))) (.cons (.ret (.cmp .Eq (.new (.cmp [4] (.var 4) (.nam 4) (.rng (.cons (.var 0) .nil)) (.te (.val (.idx (.idx (.var 2) (.var 4)) (.var 4)))))) (.new (.dis .nil)))) .nil))))
/-- check_order -/
def ir45 : Bk := (.cons (.ife (.not (.val (.call 44 (.cons (.var 0) (.cons (.var 1) .nil))))) (.cons .nev .nil) .nil) .nil)
/-- is_size -/
def ir46 : Bk := (.cons (.ret (.bop .And (.cons (.call 0 (.cons (.var 0) .nil)) (.cons (.chn .LtE .LtE (.cst (.int 1)) (.var 0) (.gbl "MOST_JOBS" (.int 12))) .nil)))) .nil)
/-- check_size -/
def ir47 : Bk := (.cons (.ife (.not (.val (.call 46 (.cons (.var 0) .nil)))) (.cons .nev .nil) .nil) .nil)
/-- last_jobs -/
def ir48 : Bk := (.cons (.ret (.new (.cmp [2] (.var 2) (.nam 2) (.lst (.var 1)) (.te (.val (.cmp .Eq (.new (.cmp [3] (.var 3) (.nam 3) (.lst (.var 0)) (.te (.bop .And (.cons (.val (.cmp .Eq (.idx (.var 3) (.cst (.int 0))) (.var 2))) (.cons (.val (.cmp .In (.idx (.var 3) (.cst (.int 1))) (.var 1))) .nil)))))) (.new (.dis .nil)))))))) .nil)
/-- check_rate -/
def ir49 : Bk := (.cons (.ife (.bop .Or (.cons (.not (.val (.call 1 (.cons (.var 0) .nil)))) (.cons (.not (.val (.chn .LtE .LtE (.cst (.int 1)) (.var 0) (.gbl "MOST_RATE" (.int 1000))))) .nil))) (.cons .nev .nil) .nil) .nil)
/-- check_rates -/
def ir50 : Bk := (.cons (.exp (.call 5 (.cons (.var 0) .nil))) (.cons (.exp (.call 49 (.cons (.var 1) .nil))) (.cons (.exp (.call 49 (.cons (.var 2) .nil))) .nil)))
/-- sides_of -/
def ir51 : Bk := (.cons (.nam 3 (.e (.bin .Add (.new (.cmp [4] (.tup (.cons (.bin .Mult (.var 1) (.var 4)) (.cons (.cst (.int 0)) .nil))) (.nam 4) (.rng (.cons (.var 0) .nil)) .no)) (.new (.cmp [4] (.tup (.cons (.bin .Mult (.var 2) (.bin .Add (.var 4) (.cst (.int 1)))) (.cons (.cst (.int 1)) .nil))) (.nam 4) (.rng (.cons (.var 0) .nil)) .no))))) (.cons (.ret (.slc (.blt .sorted (.cons (.var 3) .nil)) .no (.so (.var 0)))) .nil))
/-- longest_first_of -/
def ir52 : Bk := (.cons (.ret (.new (.cmp [1] (.idx (.var 1) (.cst (.int 1))) (.nam 1) (.lst (.blt .sorted (.cons (.new (.cmp [2, 3] (.tup (.cons (.neg (.var 3)) (.cons (.var 2) .nil))) (.tup (.cons (.nam 2) (.cons (.nam 3) .nil))) (.enu (.var 0)) .no)) .nil))) .no))) .nil)
/-- least_around -/
def ir53 : Bk := (.cons (.exp (.call 50 (.cons (.var 0) (.cons (.var 1) (.cons (.var 2) .nil))))) (.cons (.nam 3 (.e (.new (.cmp [4, 5] (.var 4) (.tup (.cons (.nam 4) (.cons (.nam 5) .nil))) (.lst (.call 51 (.cons (.blt .len (.cons (.var 0) .nil)) (.cons (.var 1) (.cons (.var 2) .nil))))) .no)))) (.cons (.ret (.blt .sum (.cons (.new (.cmp [4, 6] (.bin .Mult (.var 4) (.idx (.var 0) (.var 6))) (.tup (.cons (.nam 4) (.cons (.nam 6) .nil))) (.zip (.var 3) (.call 52 (.cons (.var 0) .nil))) .no)) .nil))) .nil)))
/-- spread_cost -/
def ir54 : Bk := (.cons (.nam 2 (.e (.cst (.int 0)))) (.cons (.nam 3 (.e (.blt .len (.cons (.var 1) .nil)))) (.cons (.for (.tup (.cons (.nam 4) (.cons (.nam 5) .nil))) (.enu (.var 1)) (.cons (.nam 2 (.e (.bin .Add (.var 2) (.bin .Mult (.bin .Mult (.idx (.var 0) (.var 5)) (.var 4)) (.bin .Sub (.var 3) (.var 4)))))) .nil)) (.cons (.ret (.var 2)) .nil))))
/-- row_together -/
def ir55 : Bk := (.cons (.nam 1 (.e (.blt .len (.cons (.var 0) .nil)))) (.cons (.nam 2 (.e (.new (.cmp [6] (.idx (.var 6) (.cst (.int 1))) (.nam 6) (.lst (.blt .sorted (.cons (.new (.cmp [7] (.tup (.cons (.bin .Mult (.var 7) (.bin .Sub (.var 1) (.var 7))) (.cons (.var 7) .nil))) (.nam 7) (.rng (.cons (.var 1) .nil)) .no)) .nil))) .no)))) (.cons (.nam 3 (.n (.rep (.new (.dis (.cons (.cst .non) .nil))) (.var 1)))) (.cons (.for (.tup (.cons (.nam 4) (.cons (.nam 5) .nil))) (.zip (.call 52 (.cons (.var 0) .nil)) (.var 2)) (.cons (.sub (.own 3) (.var 5) (.var 4)) .nil)) (.cons (.frz 3) (.cons (.ret (.var 3)) .nil))))))
/-- least_apart -/
def ir56 : Bk := (.cons (.exp (.call 5 (.cons (.var 0) .nil))) (.cons (.ret (.call 54 (.cons (.var 0) (.cons (.call 55 (.cons (.var 0) .nil)) .nil)))) .nil))
/-- check_jobs -/
def ir57 : Bk := (.cons (.exp (.call 5 (.cons (.var 0) .nil))) (.cons (.exp (.call 7 (.cons (.blt .len (.cons (.var 0) .nil)) (.cons (.var 1) .nil)))) .nil))
/-- ends_of -/
def ir58 : Bk := (.cons (.nam 2 (.n (.rep (.new (.dis (.cons (.cst (.int 0)) .nil))) (.blt .len (.cons (.var 0) .nil))))) (.cons (.nam 3 (.e (.cst (.int 0)))) (.cons (.for (.nam 4) (.lst (.var 1)) (.cons (.nam 3 (.e (.bin .Add (.var 3) (.idx (.var 0) (.var 4))))) (.cons (.sub (.own 2) (.var 4) (.var 3)) .nil))) (.cons (.frz 2) (.cons (.ret (.var 2)) .nil)))))
/-- least_of -/
def ir59 : Bk := (.cons (.nam 2 (.e (.cst (.int 0)))) (.cons (.for (.tup (.cons (.nam 3) (.cons (.nam 4) .nil))) (.enu (.var 0)) (.cons (.nam 2 (.e (.bin .Add (.var 2) (.bin .Mult (.idx (.var 1) (.var 3)) (.var 4))))) (.cons (.for (.nam 5) (.rng (.cons (.var 3) .nil)) (.cons (.nam 2 (.e (.bin .Add (.var 2) (.blt .min2 (.cons (.bin .Mult (.idx (.var 1) (.var 3)) (.idx (.var 0) (.var 5))) (.cons (.bin .Mult (.idx (.var 1) (.var 5)) (.var 4)) .nil)))))) .nil)) .nil))) (.cons (.ret (.var 2)) .nil)))
/-- least_waiting -/
def ir60 : Bk := (.cons (.exp (.call 57 (.cons (.var 0) (.cons (.var 1) .nil)))) (.cons (.ret (.call 59 (.cons (.var 0) (.cons (.var 1) .nil)))) .nil))
/-- check_due -/
def ir61 : Bk := (.cons (.exp (.call 5 (.cons (.var 0) .nil))) (.cons (.exp (.call 45 (.cons (.blt .len (.cons (.var 0) .nil)) (.cons (.var 1) .nil)))) (.cons (.exp (.call 9 (.cons (.blt .len (.cons (.var 0) .nil)) (.cons (.var 2) .nil)))) .nil)))
/-- late_of -/
def ir62 : Bk := (.cons (.nam 3 (.e (.call 58 (.cons (.var 0) (.cons (.var 2) .nil))))) (.cons (.ret (.blt .max (.cons (.new (.cmp [4, 5] (.bin .Sub (.idx (.var 3) (.var 4)) (.var 5)) (.tup (.cons (.nam 4) (.cons (.nam 5) .nil))) (.enu (.var 1)) .no)) .nil))) .nil))
/-- row_by_dues -/
def ir63 : Bk := (.cons (.nam 3 (.e (.lrg (.cons (.blt .len (.cons (.var 0) .nil)) .nil)))) (.cons (.nam 4 (.n (.dis .nil))) (.cons (.whl 1099511627776 (.val (.cmp .NotEq (.var 3) (.new (.dis .nil)))) (.cons (.nam 5 (.e (.call 48 (.cons (.var 1) (.cons (.var 3) .nil))))) (.cons (.nam 6 (.e (.new (.cmp [7] (.idx (.var 2) (.var 7)) (.nam 7) (.lst (.var 5)) .no)))) (.cons (.nam 7 (.e (.idx (.var 5) (.bmt .index (.var 6) (.cons (.blt .max (.cons (.var 6) .nil)) .nil))))) (.cons (.app (.own 4) (.var 7)) (.cons (.nam 3 (.e (.new (.cmp [8] (.var 8) (.nam 8) (.lst (.var 3)) (.te (.val (.cmp .NotEq (.var 8) (.var 7)))))))) .nil)))))) (.cons (.ret (.rev (.var 4))) .nil))))
/-- least_lateness -/
def ir64 : Bk := (.cons (.exp (.call 61 (.cons (.var 0) (.cons (.var 1) (.cons (.var 2) .nil))))) (.cons (.ret (.call 62 (.cons (.var 0) (.cons (.var 2) (.cons (.call 63 (.cons (.var 0) (.cons (.var 1) (.cons (.var 2) .nil)))) .nil))))) .nil))
/-- check_room -/
def ir65 : Bk := (.cons (.exp (.call 5 (.cons (.var 0) .nil))) (.cons (.exp (.call 47 (.cons (.var 1) .nil))) (.cons (.ife (.val (.cmp .Gt (.var 1) (.blt .len (.cons (.var 0) .nil)))) (.cons .nev .nil) .nil) .nil)))
/-- long_of -/
def ir66 : Bk := (.cons (.ret (.blt .max (.cons (.new (.cmp [2] (.idx (.var 0) (.var 2)) (.nam 2) (.lst (.var 1)) .no)) .nil))) .nil)
/-- longest_first -/
def ir67 : Bk := (.cons (.ret (.new (.cmp [1] (.idx (.var 1) (.cst (.int 1))) (.nam 1) (.lst (.blt .sorted (.cons (.new (.cmp [2, 3] (.tup (.cons (.neg (.var 3)) (.cons (.var 2) .nil))) (.tup (.cons (.nam 2) (.cons (.nam 3) .nil))) (.enu (.var 0)) .no)) .nil))) .no))) .nil)
/-- fewest_long -/
def ir68 : Bk := (.cons (.nam 2 (.e (.call 67 (.cons (.var 0) .nil)))) (.cons (.nam 3 (.n (.dis .nil))) (.cons (.whl 1099511627776 (.val (.cmp .NotEq (.var 2) (.new (.dis .nil)))) (.cons (.app (.own 3) (.blt .sorted (.cons (.slc (.var 2) .no (.so (.var 1))) .nil))) (.cons (.nam 2 (.e (.slc (.var 2) (.so (.var 1)) .no))) .nil))) (.cons (.frz 3) (.cons (.ret (.var 3)) .nil)))))
/-- least_last -/
def ir69 : Bk := (.cons (.exp (.call 65 (.cons (.var 0) (.cons (.var 1) .nil)))) (.cons (.ret (.blt .sum (.cons (.new (.cmp [2] (.call 66 (.cons (.var 0) (.cons (.var 2) .nil))) (.nam 2) (.lst (.call 68 (.cons (.var 0) (.cons (.var 1) .nil)))) .no)) .nil))) .nil))
/-- shortest_order -/
def ir70 : Bk := (.cons (.ret (.new (.cmp [1] (.idx (.var 1) (.cst (.int 1))) (.nam 1) (.lst (.blt .sorted (.cons (.new (.cmp [2, 3] (.tup (.cons (.var 3) (.cons (.var 2) .nil))) (.tup (.cons (.nam 2) (.cons (.nam 3) .nil))) (.enu (.var 0)) .no)) .nil))) .no))) .nil)
/-- Stretches.__init__ -/
def ir71 : Bk := (.cons (.att (.var 0) 13 (.var 1)) (.cons (.att (.var 0) 14 (.var 2)) (.cons (.att (.var 0) 15 (.call 70 (.cons (.var 1) .nil))) (.cons (.att (.var 0) 16 (.cel (.rep (.new (.dis (.cons (.cst (.int 0)) .nil))) (.bin .Add (.blt .len (.cons (.var 1) .nil)) (.cst (.int 1)))))) (.cons (.att (.var 0) 17 (.cel (.rep (.new (.dis (.cons (.cst .non) .nil))) (.bin .Add (.blt .len (.cons (.var 1) .nil)) (.cst (.int 1)))))) (.cons (.for (.nam 3) (.rng (.cons (.bin .Sub (.blt .len (.cons (.var 1) .nil)) (.cst (.int 1))) (.cons (.neg (.cst (.int 1))) (.cons (.neg (.cst (.int 1))) .nil)))) (.cons (.exp (.meth (.var 0) 25 (.cons (.var 3) .nil))) .nil)) .nil))))))
/-- Stretches.fill -/
def ir72 : Bk := (.cons (.nam 2 (.e (.cst .non))) (.cons (.nam 3 (.e (.call 10 (.cons (.att (.var 0) 14) (.cons (.slc (.att (.var 0) 15) (.so (.var 1)) .no) .nil))))) (.cons (.for (.nam 4) (.rng (.cons (.bin .Add (.var 1) (.cst (.int 1))) (.cons (.bin .Add (.blt .len (.cons (.att (.var 0) 15) .nil)) (.cst (.int 1))) .nil))) (.cons (.nam 5 (.e (.bin .Add (.bin .Mult (.idx (.att (.var 0) 13) (.idx (.att (.var 0) 15) (.bin .Sub (.var 4) (.cst (.int 1))))) (.var 3)) (.idx (.att (.var 0) 16) (.var 4))))) (.cons (.ife (.bop .Or (.cons (.val (.cmp .Is (.var 2) (.cst .non))) (.cons (.val (.cmp .Lt (.var 5) (.idx (.var 2) (.cst (.int 0))))) .nil))) (.cons (.nam 2 (.e (.tup (.cons (.var 5) (.cons (.var 4) .nil))))) .nil) .nil) .nil))) (.cons (.ups (.ref (.att (.var 0) 16)) (.var 1) (.ref (.att (.var 0) 17)) (.var 1) (.var 2)) .nil))))
/-- least_weighed -/
def ir73 : Bk := (.cons (.exp (.call 5 (.cons (.var 0) .nil))) (.cons (.exp (.call 7 (.cons (.blt .len (.cons (.var 0) .nil)) (.cons (.var 1) .nil)))) (.cons (.ret (.idx (.att (.make 3 (.cons (.var 0) (.cons (.var 1) .nil))) 16) (.cst (.int 0)))) .nil)))
/-- late_from -/
def ir74 : Bk := (.cons (.nam 2 (.e (.call 70 (.cons (.var 0) .nil)))) (.cons (.nam 3 (.n (.rep (.new (.dis (.cons (.tup (.cons (.cst .non) (.cons (.new (.dis .nil)) .nil))) .nil))) (.bin .Add (.blt .len (.cons (.var 2) .nil)) (.cst (.int 1)))))) (.cons (.for (.nam 4) (.rng (.cons (.bin .Sub (.blt .len (.cons (.var 2) .nil)) (.cst (.int 1))) (.cons (.neg (.cst (.int 1))) (.cons (.neg (.cst (.int 1))) .nil)))) (.cons (.nam 5 (.e (.cst .non))) (.cons (.for (.nam 6) (.rng (.cons (.bin .Add (.var 4) (.cst (.int 1))) (.cons (.bin .Add (.blt .len (.cons (.var 2) .nil)) (.cst (.int 1))) .nil))) (.cons (.nam 7 (.e (.idx (.var 0) (.idx (.var 2) (.bin .Sub (.var 6) (.cst (.int 1))))))) (.cons (.nam 8 (.e (.bin .Sub (.var 7) (.blt .min (.cons (.new (.cmp [9] (.idx (.var 1) (.var 9)) (.nam 9) (.lst (.slc (.var 2) (.so (.var 4)) (.so (.var 6)))) .no)) .nil))))) (.cons (.ife (.val (.cmp .IsNot (.idx (.idx (.var 3) (.var 6)) (.cst (.int 0))) (.cst .non))) (.cons (.nam 8 (.e (.blt .max2 (.cons (.var 8) (.cons (.bin .Add (.var 7) (.idx (.idx (.var 3) (.var 6)) (.cst (.int 0)))) .nil))))) .nil) .nil) (.cons (.ife (.bop .Or (.cons (.val (.cmp .Is (.var 5) (.cst .non))) (.cons (.val (.cmp .Lt (.var 8) (.idx (.var 5) (.cst (.int 0))))) .nil))) (.cons (.nam 5 (.e (.tup (.cons (.var 8) (.cons (.bin .Add (.new (.dis (.cons (.blt .sorted (.cons (.slc (.var 2) (.so (.var 4)) (.so (.var 6))) .nil)) .nil))) (.idx (.idx (.var 3) (.var 6)) (.cst (.int 1)))) .nil))))) .nil) .nil) .nil))))) (.cons (.sub (.own 3) (.var 4) (.var 5)) .nil)))) (.cons (.ret (.idx (.var 3) (.cst (.int 0)))) .nil))))
/-- least_late -/
def ir75 : Bk := (.cons (.exp (.call 5 (.cons (.var 0) .nil))) (.cons (.exp (.call 9 (.cons (.blt .len (.cons (.var 0) .nil)) (.cons (.var 1) .nil)))) (.cons (.ret (.idx (.call 74 (.cons (.var 0) (.cons (.var 1) .nil))) (.cst (.int 0)))) .nil)))
/-- _law_hash -/
def ir76 : Bk := (.cons (.nam 2 (.e (.bin .Mod (.blt .int (.cons (.bin .Add (.bin .Add (.bin .Add (.bin .Mult (.var 0) (.cst (.int 1140671))) (.bin .Mult (.bin .Mult (.cst (.int 27644437)) (.var 1)) (.var 1))) (.bin .Mult (.cst (.int 131)) (.var 1))) (.cst (.int 19))) .nil)) (.cst (.int 2147483629))))) (.cons (.nam 2 (.e (.bin .Mod (.blt .int (.cons (.bin .Add (.bin .Add (.bin .Mult (.var 2) (.var 2)) (.bin .Mult (.cst (.int 62089)) (.var 1))) (.cst (.int 32416187))) .nil)) (.cst (.int 2147483587))))) (.cons (.ret (.bin .Mod (.blt .int (.cons (.bin .Mult (.var 2) (.cst (.int 48271))) .nil)) (.cst (.int 2147483647)))) .nil)))
/-- _law_random -/
def ir77 : Bk := (.cons (.ife (.val (.cmp .Gt (.idx (.var 0) (.cst (.int 0))) (.cst (.int 0)))) (.cons (.nam 2 (.e (.bin .Mod (.blt .int (.cons (.idx (.var 0) (.cst (.int 0))) .nil)) (.var 1)))) (.cons (.sub (.ref (.var 0)) (.cst (.int 0)) (.bin .FloorDiv (.idx (.var 0) (.cst (.int 0))) (.var 1))) (.cons (.ret (.var 2)) .nil))) .nil) (.cons (.nam 2 (.e (.cst (.int 0)))) (.cons (.for (.nam 3) (.rng (.cons (.bin .Add (.cst (.int 1)) (.bin .FloorDiv (.bmt .bits (.var 1) .nil) (.cst (.int 30)))) .nil)) (.cons (.sub (.ref (.var 0)) (.cst (.int 2)) (.bin .Add (.idx (.var 0) (.cst (.int 2))) (.cst (.int 1)))) (.cons (.nam 2 (.e (.bin .Add (.bin .Mult (.var 2) (.cst (.int 2147483587))) (.call 76 (.cons (.idx (.var 0) (.cst (.int 1))) (.cons (.idx (.var 0) (.cst (.int 2))) .nil)))))) .nil))) (.cons (.ret (.bin .Mod (.blt .int (.cons (.var 2) .nil)) (.var 1))) .nil))))
/-- _law_cell -/
def ir78 : Bk := (.cons (.ife (.val (.cmp .Lt (.var 1) (.blt .len (.cons (.var 0) .nil)))) (.cons (.ret (.idx (.var 0) (.var 1))) .nil) .nil) (.cons (.ret (.bin .Mod (.blt .sum (.cons (.slc (.var 0) .no (.so (.cst (.int 1)))) .nil)) (.cst (.int 1000003)))) .nil))
/-- _law_generator -/
def ir79 : Bk := (.cons (.nam 2 (.e (.call 78 (.cons (.var 0) (.cons (.var 1) .nil))))) (.cons (.ret (.cel (.dis (.cons (.bin .Mod (.blt .int (.cons (.blt .max2 (.cons (.bin .Sub (.var 2) (.bin .Pow (.cst (.int 10)) (.cst (.int 18)))) (.cons (.cst (.int 0)) .nil))) .nil)) (.bin .Pow (.bin .Pow (.cst (.int 10)) (.cst (.int 60))) (.cst (.int 10)))) (.cons (.bin .Mod (.blt .int (.cons (.var 2) .nil)) (.cst (.int 2147483647))) (.cons (.bin .Mult (.cst (.int 1000)) (.var 1)) .nil)))))) .nil))
/-- _law_drawn_order -/
def ir80 : Bk := (.cons (.par 2 3 (.n (.lof (.var 1))) (.n (.dis .nil))) (.cons (.whl 1099511627776 (.val (.cmp .NotEq (.var 2) (.new (.dis .nil)))) (.cons (.apo 3 (.own 2) (.so (.call 77 (.cons (.var 0) (.cons (.blt .len (.cons (.var 2) .nil)) .nil))))) .nil)) (.cons (.frz 3) (.cons (.ret (.var 3)) .nil))))
/-- _law_exact -/
def ir81 : Bk := (.cons (.ife (.val (.is2 .list .tuple (.var 1))) (.cons (.ife (.bop .Or (.cons (.val (.cmp .NotEq (.blt (.isi .list) (.cons (.var 0) .nil)) (.blt (.isi .list) (.cons (.var 1) .nil)))) (.cons (.val (.cmp .NotEq (.blt (.isi .tuple) (.cons (.var 0) .nil)) (.blt (.isi .tuple) (.cons (.var 1) .nil)))) .nil))) (.cons (.ret (.cst (.bl false))) .nil) .nil) (.cons (.ret (.bop .And (.cons (.cmp .Eq (.blt .len (.cons (.var 0) .nil)) (.blt .len (.cons (.var 1) .nil))) (.cons (.blt .all (.cons (.new (.cmp [2, 3] (.call 81 (.cons (.idx (.var 0) (.var 2)) (.cons (.var 3) .nil))) (.tup (.cons (.nam 2) (.cons (.nam 3) .nil))) (.enu (.var 1)) .no)) .nil)) .nil)))) .nil)) .nil) (.cons (.ife (.val (.blt (.isi .str) (.cons (.var 1) .nil))) (.cons (.ret (.bop .And (.cons (.blt (.isi .str) (.cons (.var 0) .nil)) (.cons (.cmp .Eq (.var 0) (.var 1)) .nil)))) .nil) .nil) (.cons (.ife (.val (.blt (.isi .bool) (.cons (.var 1) .nil))) (.cons (.ret (.bop .And (.cons (.blt (.isi .bool) (.cons (.var 0) .nil)) (.cons (.cmp .Eq (.var 0) (.var 1)) .nil)))) .nil) .nil) (.cons (.ife (.val (.blt (.isi .int) (.cons (.var 1) .nil))) (.cons (.ret (.bop .And (.cons (.blt (.isi .int) (.cons (.var 0) .nil)) (.cons (.not (.blt (.isi .bool) (.cons (.var 0) .nil))) (.cons (.cmp .Eq (.var 0) (.var 1)) .nil))))) .nil) .nil) (.cons (.ret (.bop .And (.cons (.cmp .Is (.var 0) (.cst .non)) (.cons (.cmp .Is (.var 1) (.cst .non)) .nil)))) .nil)))))
/-- _law_copied -/
def ir82 : Bk := (.cons (.ife (.val (.blt (.isi .list) (.cons (.var 0) .nil))) (.cons (.ret (.new (.cmp [1] (.call 82 (.cons (.var 1) .nil)) (.nam 1) (.lst (.var 0)) .no))) .nil) .nil) (.cons (.ret (.ite (.val (.blt (.isi .tuple) (.cons (.var 0) .nil))) (.blt .tuple (.cons (.new (.cmp [1] (.call 82 (.cons (.var 1) .nil)) (.nam 1) (.lst (.var 0)) .no)) .nil)) (.var 0))) .nil))
/-- _law_weights -/
def ir83 : Bk := (.cons (.nam 3 (.e (.idx (.new (.dis (.cons (.cst (.int 2)) (.cons (.cst (.int 9)) (.cons (.cst (.int 30)) (.cons (.cst (.int 900)) .nil)))))) (.call 77 (.cons (.var 0) (.cons (.cst (.int 4)) .nil)))))) (.cons (.ret (.new (.cmp [4] (.bin .Add (.var 2) (.call 77 (.cons (.var 0) (.cons (.var 3) .nil)))) (.nam 4) (.rng (.cons (.var 1) .nil)) .no))) .nil))
/-- _law_come -/
def ir84 : Bk := (.cons (.nam 3 (.e (.make 2 (.cons (.var 0) .nil)))) (.cons (.for (.nam 4) (.lst (.var 2)) (.cons (.exp (.meth (.var 3) 26 (.cons (.idx (.cst (.str "abcdefghijkl")) (.var 4)) (.cons (.idx (.var 1) (.var 4)) .nil)))) .nil)) (.cons (.ret (.var 3)) .nil)))
/-- _law_houses_right -/
def ir85 : Bk := (.cons (.par 10 11 (.e (.blt .len (.cons (.var 1) .nil))) (.e (.bin .Add (.cst (.int 1)) (.call 77 (.cons (.var 0) (.cons (.cst (.int 4)) .nil)))))) (.cons (.nam 2 (.e (.new (.cmp [13, 12] (.var 12) (.tup (.cons (.nam 13) (.cons (.nam 12) .nil))) (.lst (.blt .sorted (.cons (.new (.cmp [12, 13] (.tup (.cons (.var 13) (.cons (.var 12) .nil))) (.tup (.cons (.nam 12) (.cons (.nam 13) .nil))) (.enu (.var 1)) .no)) .nil))) .no)))) (.cons (.nam 3 (.e (.call 15 (.cons (.var 1) (.cons (.var 11) .nil))))) (.cons (.ife (.val (.cmp .NotEq (.meth (.call 84 (.cons (.var 11) (.cons (.var 1) (.cons (.var 2) .nil)))) 27 .nil) (.var 3))) (.cons (.ret (.cst (.bl false))) .nil) .nil) (.cons (.nam 4 (.e (.call 80 (.cons (.var 0) (.cons (.lrg (.cons (.var 10) .nil)) .nil))))) (.cons (.nam 5 (.e (.call 84 (.cons (.var 11) (.cons (.var 1) (.cons (.var 4) .nil)))))) (.cons (.ife (.val (.cmp .Lt (.meth (.var 5) 27 .nil) (.var 3))) (.cons (.ret (.cst (.bl false))) .nil) .nil) (.cons (.exp (.meth (.var 5) 28 (.cons (.blt .sum (.cons (.var 1) .nil)) .nil))) (.cons (.nam 6 (.e (.meth (.var 5) 10 .nil))) (.cons (.ife (.bop .Or (.cons (.val (.cmp .NotEq (.blt .sorted (.cons (.new (.cmp [14] (.idx (.var 14) (.cst (.int 0))) (.nam 14) (.lst (.var 6)) .no)) .nil)) (.blt .sorted (.cons (.new (.cmp [12] (.idx (.cst (.str "abcdefghijkl")) (.var 12)) (.nam 12) (.lst (.var 4)) .no)) .nil)))) (.cons (.val (.cmp .NotEq (.blt .sum (.cons (.new (.cmp [14] (.idx (.var 14) (.cst (.int 1))) (.nam 14) (.lst (.var 6)) .no)) .nil)) (.meth (.var 5) 27 .nil))) .nil))) (.cons (.ret (.cst (.bl false))) .nil) .nil) (.cons (.nam 7 (.e (.call 84 (.cons (.cst (.int 1)) (.cons (.var 1) (.cons (.var 4) .nil)))))) (.cons (.nam 8 (.e (.new (.cmp [12] (.var 12) (.nam 12) (.lst (.slc (.var 4) (.so (.cst (.int 1))) .no)) .no)))) (.cons (.nam 9 (.e (.bin .Add (.bin .Mult (.idx (.var 1) (.idx (.var 4) (.cst (.int 0)))) (.var 10)) (.ite (.val (.cmp .NotEq (.var 8) (.new (.dis .nil)))) (.call 60 (.cons (.new (.cmp [12] (.idx (.var 1) (.var 12)) (.nam 12) (.lst (.var 8)) .no)) (.cons (.new (.cmp [12] (.cst (.int 1)) (.nam 12) (.lst (.var 8)) .no)) .nil))) (.cst (.int 0)))))) (.cons (.ret (.cmp .Eq (.meth (.var 7) 27 .nil) (.var 9))) .nil))))))))))))))
/-- _law_ovens_right -/
def ir86 : Bk := (.cons (.par 5 6 (.e (.blt .len (.cons (.var 0) .nil))) (.e (.blt .max (.cons (.var 0) .nil)))) (.cons (.nam 3 (.e (.new (.cmp [9] (.call 69 (.cons (.var 0) (.cons (.var 9) .nil))) (.nam 9) (.rng (.cons (.cst (.int 1)) (.cons (.bin .Add (.var 5) (.cst (.int 1))) .nil))) .no)))) (.cons (.ife (.bop .Or (.cons (.val (.cmp .NotEq (.idx (.var 3) (.cst (.int 0))) (.blt .sum (.cons (.var 0) .nil)))) (.cons (.val (.cmp .NotEq (.idx (.var 3) (.neg (.cst (.int 1)))) (.var 6))) (.cons (.val (.cmp .NotEq (.new (.cmp [10] (.var 10) (.nam 10) (.rng (.cons (.cst (.int 1)) (.cons (.var 5) .nil))) (.te (.val (.cmp .Gt (.idx (.var 3) (.var 10)) (.idx (.var 3) (.bin .Sub (.var 10) (.cst (.int 1))))))))) (.new (.dis .nil)))) .nil)))) (.cons (.ret (.cst (.bl false))) .nil) .nil) (.cons (.ife (.not (.val (.cmp .LtE (.call 73 (.cons (.var 0) (.cons (.var 1) .nil))) (.blt .min2 (.cons (.bin .Mult (.var 6) (.blt .sum (.cons (.var 1) .nil))) (.cons (.call 60 (.cons (.var 0) (.cons (.var 1) .nil))) .nil)))))) (.cons (.ret (.cst (.bl false))) .nil) .nil) (.cons (.nam 4 (.e (.blt .sum (.cons (.new (.cmp [11, 12] (.bin .Mult (.idx (.var 1) (.var 11)) (.var 12)) (.tup (.cons (.nam 11) (.cons (.nam 12) .nil))) (.enu (.var 0)) .no)) .nil)))) (.cons (.ife (.val (.cmp .Lt (.call 73 (.cons (.var 0) (.cons (.var 1) .nil))) (.var 4))) (.cons (.ret (.cst (.bl false))) .nil) .nil) (.cons (.par 7 8 (.e (.call 75 (.cons (.var 0) (.cons (.var 2) .nil)))) (.e (.call 64 (.cons (.var 0) (.cons (.new (.dis .nil)) (.cons (.var 2) .nil)))))) (.cons (.ret (.bop .And (.cons (.cmp .LtE (.var 7) (.var 8)) (.cons (.cmp .LtE (.var 7) (.bin .Sub (.var 6) (.blt .min (.cons (.var 2) .nil)))) (.cons (.cmp .GtE (.var 7) (.blt .max (.cons (.new (.cmp [11] (.bin .Sub (.idx (.var 0) (.var 11)) (.idx (.var 2) (.var 11))) (.nam 11) (.rng (.cons (.var 5) .nil)) .no)) .nil))) .nil))))) .nil))))))))
/-- _law_around_right -/
def ir87 : Bk := (.cons (.unp (.tup (.cons (.nam 3) (.cons (.nam 4) .nil))) (.tup (.cons (.blt .len (.cons (.var 0) .nil)) (.cons (.blt .sorted (.cons (.var 0) .nil)) .nil)))) (.cons (.nam 1 (.e (.slc (.var 4) .no (.so (.neg (.cst (.int 1))))))) (.cons (.nam 2 (.e (.ite (.val (.cmp .NotEq (.var 1) (.new (.dis .nil)))) (.call 60 (.cons (.var 1) (.cons (.new (.cmp [5] (.cst (.int 1)) (.nam 5) (.lst (.var 1)) .no)) .nil))) (.cst (.int 0))))) (.cons (.ife (.not (.val (.call 81 (.cons (.new (.dis (.cons (.call 53 (.cons (.var 0) (.cons (.cst (.int 1000)) (.cons (.cst (.int 1)) .nil)))) (.cons (.call 53 (.cons (.var 0) (.cons (.cst (.int 1)) (.cons (.cst (.int 1000)) .nil)))) .nil)))) (.cons (.new (.dis (.cons (.var 2) (.cons (.var 2) .nil)))) .nil))))) (.cons (.ret (.cst (.bl false))) .nil) .nil) (.cons (.ret (.cmp .Eq (.call 56 (.cons (.var 0) .nil)) (.blt .sum (.cons (.new (.cmp [6, 5] (.bin .Mult (.var 6) (.var 5)) (.tup (.cons (.nam 6) (.cons (.nam 5) .nil))) (.zip (.blt .sorted (.cons (.new (.cmp [7] (.bin .Mult (.var 7) (.bin .Sub (.var 3) (.var 7))) (.nam 7) (.rng (.cons (.var 3) .nil)) .no)) .nil)) (.rev (.var 4))) .no)) .nil)))) .nil)))))
/-- law -/
def ir88 : Bk := (.cons (.nam 1 (.e (.call 79 (.cons (.var 0) (.cons (.cst (.int 0)) .nil))))) (.cons (.for (.nam 2) (.rng (.cons (.cst (.int 3)) .nil)) (.cons (.unp (.tup (.cons (.nam 5) (.cons (.nam 6) .nil))) (.tup (.cons (.bin .Add (.cst (.int 1)) (.call 77 (.cons (.var 1) (.cons (.idx (.new (.dis (.cons (.cst (.int 3)) (.cons (.cst (.int 5)) (.cons (.cst (.int 5)) .nil))))) (.var 2)) .nil)))) (.cons (.idx (.new (.dis (.cons (.cst (.int 4)) (.cons (.cst (.int 9)) (.cons (.cst (.int 100)) .nil))))) (.var 2)) .nil)))) (.cons (.unp (.tup (.cons (.nam 7) (.cons (.nam 8) .nil))) (.tup (.cons (.new (.cmp [9] (.bin .Add (.cst (.int 1)) (.call 77 (.cons (.var 1) (.cons (.var 6) .nil)))) (.nam 9) (.rng (.cons (.var 5) .nil)) .no)) (.cons (.call 83 (.cons (.var 1) (.cons (.var 5) (.cons (.cst (.int 0)) .nil)))) .nil)))) (.cons (.nam 3 (.e (.new (.cmp [9] (.call 77 (.cons (.var 1) (.cons (.bin .Mult (.cst (.int 2)) (.blt .sum (.cons (.var 7) .nil))) .nil))) (.nam 9) (.rng (.cons (.var 5) .nil)) .no)))) (.cons (.nam 4 (.e (.call 82 (.cons (.new (.dis (.cons (.var 7) (.cons (.var 8) (.cons (.var 3) .nil))))) .nil)))) (.cons (.ife (.bop .Or (.cons (.not (.val (.call 85 (.cons (.var 1) (.cons (.var 7) .nil))))) (.cons (.not (.val (.call 86 (.cons (.var 7) (.cons (.var 8) (.cons (.var 3) .nil)))))) (.cons (.not (.val (.call 87 (.cons (.var 7) .nil)))) (.cons (.not (.val (.call 81 (.cons (.new (.dis (.cons (.var 7) (.cons (.var 8) (.cons (.var 3) .nil))))) (.cons (.var 4) .nil))))) .nil))))) (.cons (.ret (.cst (.bl false))) .nil) .nil) .nil)))))) (.cons (.ret (.cst (.bl true))) .nil)))
def nms : List Str := (["Steps", "Day", "House", "Stretches", "now", "elder", "later", "trials", "running", "waiting", "done", "log", "steps", "times", "weights", "jobs", "least", "next", "next_end", "at_moment"] : List Str) ++ (["begun", "finished", "names", "with_waiting", "passed", "fill", "come", "sum_of_ends", "wait", "end", "apart", "moment", "forecast"] : List Str)
def cs : List CI := ([⟨0, 16, [(10, 17), (29, 18), (30, 19)], [4, 5, 6, 7], false⟩, ⟨1, 23, [(22, 24), (23, 25), (20, 26), (19, 27), (18, 28), (24, 29), (21, 30)], [4, 8, 9, 10, 11], true⟩, ⟨2, 32, [(31, 33), (8, 34), (9, 35), (10, 36), (32, 37), (27, 38), (11, 39), (26, 40), (28, 41)], [12], false⟩, ⟨3, 71, [(25, 72)], [13, 14, 15, 16, 17], false⟩] : List CI)
def fi0 : FI := ⟨⟨("is_whole", none), "is_whole", "is_whole", defArgs (top 13), defBody (top 13), defScope (top 13), [], []⟩, ["value"], ["value"], ir0⟩
def fi1 : FI := ⟨⟨("is_count", none), "is_count", "is_count", defArgs (top 19), defBody (top 19), defScope (top 19), [], []⟩, ["value"], ["value"], ir1⟩
def fi2 : FI := ⟨⟨("is_below", none), "is_below", "is_below", defArgs (top 20), defBody (top 20), defScope (top 20), [], []⟩, ["value", "bound"], ["value", "bound"], ir2⟩
def fi3 : FI := ⟨⟨("are_counts", none), "are_counts", "are_counts", defArgs (top 21), defBody (top 21), defScope (top 21), [], []⟩, ["value", "size", "least", "most", "one"], ["value", "size", "least", "most"], ir3⟩
def fi4 : FI := ⟨⟨("are_times", none), "are_times", "are_times", defArgs (top 22), defBody (top 22), defScope (top 22), [], []⟩, ["value"], ["value"], ir4⟩
def fi5 : FI := ⟨⟨("check_times", none), "check_times", "check_times", defArgs (top 23), defBody (top 23), defScope (top 23), [], []⟩, ["times"], ["times"], ir5⟩
def fi6 : FI := ⟨⟨("are_weights_of", none), "are_weights_of", "are_weights_of", defArgs (top 24), defBody (top 24), defScope (top 24), [], []⟩, ["size", "value"], ["size", "value"], ir6⟩
def fi7 : FI := ⟨⟨("check_weights", none), "check_weights", "check_weights", defArgs (top 25), defBody (top 25), defScope (top 25), [], []⟩, ["size", "weights"], ["size", "weights"], ir7⟩
def fi8 : FI := ⟨⟨("are_moments_of", none), "are_moments_of", "are_moments_of", defArgs (top 26), defBody (top 26), defScope (top 26), [], []⟩, ["size", "value"], ["size", "value"], ir8⟩
def fi9 : FI := ⟨⟨("check_dues", none), "check_dues", "check_dues", defArgs (top 27), defBody (top 27), defScope (top 27), [], []⟩, ["size", "dues"], ["size", "dues"], ir9⟩
def fi10 : FI := ⟨⟨("sum_over", none), "sum_over", "sum_over", defArgs (top 28), defBody (top 28), defScope (top 28), [], []⟩, ["numbers", "lot", "job"], ["numbers", "lot"], ir10⟩
def fi11 : FI := ⟨⟨("are_machines", none), "are_machines", "are_machines", defArgs (top 31), defBody (top 31), defScope (top 31), [], []⟩, ["value"], ["value"], ir11⟩
def fi12 : FI := ⟨⟨("check_machines", none), "check_machines", "check_machines", defArgs (top 32), defBody (top 32), defScope (top 32), [], []⟩, ["machines"], ["machines"], ir12⟩
def fi13 : FI := ⟨⟨("check_machine_case", none), "check_machine_case", "check_machine_case", defArgs (top 33), defBody (top 33), defScope (top 33), [], []⟩, ["times", "machines"], ["times", "machines"], ir13⟩
def fi14 : FI := ⟨⟨("least_sum_of", none), "least_sum_of", "least_sum_of", defArgs (top 34), defBody (top 34), defScope (top 34), [], []⟩, ["times", "machines", "ranked", "at", "time"], ["times", "machines"], ir14⟩
def fi15 : FI := ⟨⟨("least_sum", none), "least_sum", "least_sum", defArgs (top 35), defBody (top 35), defScope (top 35), [], []⟩, ["times", "machines"], ["times", "machines"], ir15⟩
def fi16 : FI := ⟨⟨("Steps", some "__init__"), "__init__", "Steps.__init__", defArgs (inClass (top 37) 0), defBody (inClass (top 37) 0), defScope (inClass (top 37) 0), [], []⟩, ["self", "state"], ["self", "state"], ir16⟩
def fi17 : FI := ⟨⟨("Steps", some "done"), "done", "Steps.done", defArgs (inClass (top 37) 1), defBody (inClass (top 37) 1), defScope (inClass (top 37) 1), [], []⟩, ["self", "state"], ["self", "state"], ir17⟩
def fi18 : FI := ⟨⟨("Steps", some "end"), "end", "Steps.end", defArgs (inClass (top 37) 6), defBody (inClass (top 37) 6), defScope (inClass (top 37) 6), [], []⟩, ["self"], ["self"], ir18⟩
def fi19 : FI := ⟨⟨("Steps", some "apart"), "apart", "Steps.apart", defArgs (inClass (top 37) 9), defBody (inClass (top 37) 9), defScope (inClass (top 37) 9), [], []⟩, ["self"], ["self"], ir19⟩
def fi20 : FI := ⟨⟨("is_job_name", none), "is_job_name", "is_job_name", defArgs (top 41), defBody (top 41), defScope (top 41), [], []⟩, ["value", "sign"], ["value"], ir20⟩
def fi21 : FI := ⟨⟨("is_time", none), "is_time", "is_time", defArgs (top 42), defBody (top 42), defScope (top 42), [], []⟩, ["value"], ["value"], ir21⟩
def fi22 : FI := ⟨⟨("written", none), "written", "written", defArgs (top 43), defBody (top 43), defScope (top 43), [], []⟩, ["words", "word"], ["words"], ir22⟩
def fi23 : FI := ⟨⟨("Day", some "__init__"), "__init__", "Day.__init__", defArgs (inClass (top 44) 0), defBody (inClass (top 44) 0), defScope (inClass (top 44) 0), [], []⟩, ["self", "now", "running", "waiting", "done", "log"], ["self", "now", "running", "waiting", "done", "log"], ir23⟩
def fi24 : FI := ⟨⟨("Day", some "names"), "names", "Day.names", defArgs (inClass (top 44) 1), defBody (inClass (top 44) 1), defScope (inClass (top 44) 1), [], []⟩, ["self", "there", "one"], ["self"], ir24⟩
def fi25 : FI := ⟨⟨("Day", some "with_waiting"), "with_waiting", "Day.with_waiting", defArgs (inClass (top 44) 2), defBody (inClass (top 44) 2), defScope (inClass (top 44) 2), [], []⟩, ["self", "waiting", "words"], ["self", "waiting", "words"], ir25⟩
def fi26 : FI := ⟨⟨("Day", some "begun"), "begun", "Day.begun", defArgs (inClass (top 44) 3), defBody (inClass (top 44) 3), defScope (inClass (top 44) 3), [], []⟩, ["self", "running", "waiting", "machine", "one", "at"], ["self"], ir26⟩
def fi27 : FI := ⟨⟨("Day", some "at_moment"), "at_moment", "Day.at_moment", defArgs (inClass (top 44) 4), defBody (inClass (top 44) 4), defScope (inClass (top 44) 4), [], []⟩, ["self", "moment", "ended", "running", "one"], ["self", "moment"], ir27⟩
def fi28 : FI := ⟨⟨("Day", some "next_end"), "next_end", "Day.next_end", defArgs (inClass (top 44) 5), defBody (inClass (top 44) 5), defScope (inClass (top 44) 5), [], []⟩, ["self", "ends", "one"], ["self"], ir28⟩
def fi29 : FI := ⟨⟨("Day", some "passed"), "passed", "Day.passed", defArgs (inClass (top 44) 6), defBody (inClass (top 44) 6), defScope (inClass (top 44) 6), [], []⟩, ["self", "amount", "day", "last", "end"], ["self", "amount"], ir29⟩
def fi30 : FI := ⟨⟨("Day", some "finished"), "finished", "Day.finished", defArgs (inClass (top 44) 7), defBody (inClass (top 44) 7), defScope (inClass (top 44) 7), [], []⟩, ["self", "day", "end"], ["self"], ir30⟩
def fi31 : FI := ⟨⟨("shortest", none), "shortest", "shortest", defArgs (top 45), defBody (top 45), defScope (top 45), [], []⟩, ["waiting", "best", "at", "one"], ["waiting"], ir31⟩
def fi32 : FI := ⟨⟨("House", some "__init__"), "__init__", "House.__init__", defArgs (inClass (top 46) 0), defBody (inClass (top 46) 0), defScope (inClass (top 46) 0), [], []⟩, ["self", "machines"], ["self", "machines"], ir32⟩
def fi33 : FI := ⟨⟨("House", some "moment"), "moment", "House.moment", defArgs (inClass (top 46) 1), defBody (inClass (top 46) 1), defScope (inClass (top 46) 1), [], []⟩, ["self"], ["self"], ir33⟩
def fi34 : FI := ⟨⟨("House", some "running"), "running", "House.running", defArgs (inClass (top 46) 2), defBody (inClass (top 46) 2), defScope (inClass (top 46) 2), [], []⟩, ["self"], ["self"], ir34⟩
def fi35 : FI := ⟨⟨("House", some "waiting"), "waiting", "House.waiting", defArgs (inClass (top 46) 3), defBody (inClass (top 46) 3), defScope (inClass (top 46) 3), [], []⟩, ["self"], ["self"], ir35⟩
def fi36 : FI := ⟨⟨("House", some "done"), "done", "House.done", defArgs (inClass (top 46) 4), defBody (inClass (top 46) 4), defScope (inClass (top 46) 4), [], []⟩, ["self"], ["self"], ir36⟩
def fi37 : FI := ⟨⟨("House", some "forecast"), "forecast", "House.forecast", defArgs (inClass (top 46) 5), defBody (inClass (top 46) 5), defScope (inClass (top 46) 5), [], []⟩, ["self", "day"], ["self"], ir37⟩
def fi38 : FI := ⟨⟨("House", some "sum_of_ends"), "sum_of_ends", "House.sum_of_ends", defArgs (inClass (top 46) 6), defBody (inClass (top 46) 6), defScope (inClass (top 46) 6), [], []⟩, ["self", "one"], ["self"], ir38⟩
def fi39 : FI := ⟨⟨("House", some "log"), "log", "House.log", defArgs (inClass (top 46) 7), defBody (inClass (top 46) 7), defScope (inClass (top 46) 7), [], []⟩, ["self"], ["self"], ir39⟩
def fi40 : FI := ⟨⟨("House", some "come"), "come", "House.come", defArgs (inClass (top 46) 8), defBody (inClass (top 46) 8), defScope (inClass (top 46) 8), [], []⟩, ["self", "name", "time", "day"], ["self", "name", "time"], ir40⟩
def fi41 : FI := ⟨⟨("House", some "wait"), "wait", "House.wait", defArgs (inClass (top 46) 12), defBody (inClass (top 46) 12), defScope (inClass (top 46) 12), [], []⟩, ["self", "amount"], ["self", "amount"], ir41⟩
def fi42 : FI := ⟨⟨("is_pair", none), "is_pair", "is_pair", defArgs (top 48), defBody (top 48), defScope (top 48), [], []⟩, ["size", "value"], ["size", "value"], ir42⟩
def fi43 : FI := ⟨⟨("reach_of", none), "reach_of", "reach_of", defArgs (top 49), defBody (top 49), defScope (top 49), [], []⟩, ["size", "order", "before", "middle", "job", "other"], ["size", "order"], ir43⟩
def fi44 : FI := ⟨⟨("is_order_of", none), "is_order_of", "is_order_of", defArgs (top 50), defBody (top 50), defScope (top 50), [], []⟩, ["size", "value", "before", "at", "job", "pair"], ["size", "value"], ir44⟩
def fi45 : FI := ⟨⟨("check_order", none), "check_order", "check_order", defArgs (top 51), defBody (top 51), defScope (top 51), [], []⟩, ["size", "order"], ["size", "order"], ir45⟩
def fi46 : FI := ⟨⟨("is_size", none), "is_size", "is_size", defArgs (top 52), defBody (top 52), defScope (top 52), [], []⟩, ["value"], ["value"], ir46⟩
def fi47 : FI := ⟨⟨("check_size", none), "check_size", "check_size", defArgs (top 53), defBody (top 53), defScope (top 53), [], []⟩, ["size"], ["size"], ir47⟩
def fi48 : FI := ⟨⟨("last_jobs", none), "last_jobs", "last_jobs", defArgs (top 54), defBody (top 54), defScope (top 54), [], []⟩, ["order", "lot", "job", "pair"], ["order", "lot"], ir48⟩
def fi49 : FI := ⟨⟨("check_rate", none), "check_rate", "check_rate", defArgs (top 57), defBody (top 57), defScope (top 57), [], []⟩, ["rate"], ["rate"], ir49⟩
def fi50 : FI := ⟨⟨("check_rates", none), "check_rates", "check_rates", defArgs (top 58), defBody (top 58), defScope (top 58), [], []⟩, ["times", "early", "late"], ["times", "early", "late"], ir50⟩
def fi51 : FI := ⟨⟨("sides_of", none), "sides_of", "sides_of", defArgs (top 59), defBody (top 59), defScope (top 59), [], []⟩, ["size", "early", "late", "rates", "at"], ["size", "early", "late"], ir51⟩
def fi52 : FI := ⟨⟨("longest_first_of", none), "longest_first_of", "longest_first_of", defArgs (top 60), defBody (top 60), defScope (top 60), [], []⟩, ["times", "pair", "job", "time"], ["times"], ir52⟩
def fi53 : FI := ⟨⟨("least_around", none), "least_around", "least_around", defArgs (top 61), defBody (top 61), defScope (top 61), [], []⟩, ["times", "early", "late", "rates", "rate", "side", "job"], ["times", "early", "late"], ir53⟩
def fi54 : FI := ⟨⟨("spread_cost", none), "spread_cost", "spread_cost", defArgs (top 62), defBody (top 62), defScope (top 62), [], []⟩, ["times", "row", "found", "size", "at", "job"], ["times", "row"], ir54⟩
def fi55 : FI := ⟨⟨("row_together", none), "row_together", "row_together", defArgs (top 63), defBody (top 63), defScope (top 63), [], []⟩, ["times", "size", "places", "row", "job", "place", "pair", "at"], ["times"], ir55⟩
def fi56 : FI := ⟨⟨("least_apart", none), "least_apart", "least_apart", defArgs (top 64), defBody (top 64), defScope (top 64), [], []⟩, ["times"], ["times"], ir56⟩
def fi57 : FI := ⟨⟨("check_jobs", none), "check_jobs", "check_jobs", defArgs (top 66), defBody (top 66), defScope (top 66), [], []⟩, ["times", "weights"], ["times", "weights"], ir57⟩
def fi58 : FI := ⟨⟨("ends_of", none), "ends_of", "ends_of", defArgs (top 67), defBody (top 67), defScope (top 67), [], []⟩, ["times", "row", "found", "now", "job"], ["times", "row"], ir58⟩
def fi59 : FI := ⟨⟨("least_of", none), "least_of", "least_of", defArgs (top 68), defBody (top 68), defScope (top 68), [], []⟩, ["times", "weights", "found", "job", "time", "other"], ["times", "weights"], ir59⟩
def fi60 : FI := ⟨⟨("least_waiting", none), "least_waiting", "least_waiting", defArgs (top 69), defBody (top 69), defScope (top 69), [], []⟩, ["times", "weights"], ["times", "weights"], ir60⟩
def fi61 : FI := ⟨⟨("check_due", none), "check_due", "check_due", defArgs (top 71), defBody (top 71), defScope (top 71), [], []⟩, ["times", "order", "dues"], ["times", "order", "dues"], ir61⟩
def fi62 : FI := ⟨⟨("late_of", none), "late_of", "late_of", defArgs (top 72), defBody (top 72), defScope (top 72), [], []⟩, ["times", "dues", "row", "ends", "job", "due"], ["times", "dues", "row"], ir62⟩
def fi63 : FI := ⟨⟨("row_by_dues", none), "row_by_dues", "row_by_dues", defArgs (top 73), defBody (top 73), defScope (top 73), [], []⟩, ["times", "order", "dues", "left", "found", "able", "told", "job", "other"], ["times", "order", "dues"], ir63⟩
def fi64 : FI := ⟨⟨("least_lateness", none), "least_lateness", "least_lateness", defArgs (top 74), defBody (top 74), defScope (top 74), [], []⟩, ["times", "order", "dues"], ["times", "order", "dues"], ir64⟩
def fi65 : FI := ⟨⟨("check_room", none), "check_room", "check_room", defArgs (top 76), defBody (top 76), defScope (top 76), [], []⟩, ["times", "room"], ["times", "room"], ir65⟩
def fi66 : FI := ⟨⟨("long_of", none), "long_of", "long_of", defArgs (top 77), defBody (top 77), defScope (top 77), [], []⟩, ["times", "lot", "job"], ["times", "lot"], ir66⟩
def fi67 : FI := ⟨⟨("longest_first", none), "longest_first", "longest_first", defArgs (top 78), defBody (top 78), defScope (top 78), [], []⟩, ["times", "pair", "job", "time"], ["times"], ir67⟩
def fi68 : FI := ⟨⟨("fewest_long", none), "fewest_long", "fewest_long", defArgs (top 79), defBody (top 79), defScope (top 79), [], []⟩, ["times", "room", "jobs", "found"], ["times", "room"], ir68⟩
def fi69 : FI := ⟨⟨("least_last", none), "least_last", "least_last", defArgs (top 80), defBody (top 80), defScope (top 80), [], []⟩, ["times", "room", "lot"], ["times", "room"], ir69⟩
def fi70 : FI := ⟨⟨("shortest_order", none), "shortest_order", "shortest_order", defArgs (top 81), defBody (top 81), defScope (top 81), [], []⟩, ["times", "pair", "job", "time"], ["times"], ir70⟩
def fi71 : FI := ⟨⟨("Stretches", some "__init__"), "__init__", "Stretches.__init__", defArgs (inClass (top 82) 0), defBody (inClass (top 82) 0), defScope (inClass (top 82) 0), [], []⟩, ["self", "times", "weights", "at"], ["self", "times", "weights"], ir71⟩
def fi72 : FI := ⟨⟨("Stretches", some "fill"), "fill", "Stretches.fill", defArgs (inClass (top 82) 1), defBody (inClass (top 82) 1), defScope (inClass (top 82) 1), [], []⟩, ["self", "at", "best", "rest", "end", "cost"], ["self", "at"], ir72⟩
def fi73 : FI := ⟨⟨("least_weighed", none), "least_weighed", "least_weighed", defArgs (top 83), defBody (top 83), defScope (top 83), [], []⟩, ["times", "weights"], ["times", "weights"], ir73⟩
def fi74 : FI := ⟨⟨("late_from", none), "late_from", "late_from", defArgs (top 84), defBody (top 84), defScope (top 84), [], []⟩, ["times", "dues", "jobs", "best", "at", "found", "end", "time", "worst", "job"], ["times", "dues"], ir74⟩
def fi75 : FI := ⟨⟨("least_late", none), "least_late", "least_late", defArgs (top 85), defBody (top 85), defScope (top 85), [], []⟩, ["times", "dues"], ["times", "dues"], ir75⟩
def fi76 : FI := ⟨⟨("_law_hash", none), "_law_hash", "_law_hash", defArgs (top 87), defBody (top 87), defScope (top 87), [], []⟩, ["seed", "index", "mixed"], ["seed", "index"], ir76⟩
def fi77 : FI := ⟨⟨("_law_random", none), "_law_random", "_law_random", defArgs (top 88), defBody (top 88), defScope (top 88), [], []⟩, ["generator", "bound", "drawn", "turn"], ["generator", "bound"], ir77⟩
def fi78 : FI := ⟨⟨("_law_cell", none), "_law_cell", "_law_cell", defArgs (top 89), defBody (top 89), defScope (top 89), [], []⟩, ["script", "index"], ["script", "index"], ir78⟩
def fi79 : FI := ⟨⟨("_law_generator", none), "_law_generator", "_law_generator", defArgs (top 90), defBody (top 90), defScope (top 90), [], []⟩, ["script", "index", "seed"], ["script", "index"], ir79⟩
def fi80 : FI := ⟨⟨("_law_drawn_order", none), "_law_drawn_order", "_law_drawn_order", defArgs (top 91), defBody (top 91), defScope (top 91), [], []⟩, ["generator", "things", "left", "found"], ["generator", "things"], ir80⟩
def fi81 : FI := ⟨⟨("_law_exact", none), "_law_exact", "_law_exact", defArgs (top 92), defBody (top 92), defScope (top 92), [], []⟩, ["told", "due", "at", "part"], ["told", "due"], ir81⟩
def fi82 : FI := ⟨⟨("_law_copied", none), "_law_copied", "_law_copied", defArgs (top 93), defBody (top 93), defScope (top 93), [], []⟩, ["thing", "part"], ["thing"], ir82⟩
def fi83 : FI := ⟨⟨("_law_weights", none), "_law_weights", "_law_weights", defArgs (top 94), defBody (top 94), defScope (top 94), [], []⟩, ["generator", "size", "least", "wide", "job"], ["generator", "size", "least"], ir83⟩
def fi84 : FI := ⟨⟨("_law_come", none), "_law_come", "_law_come", defArgs (top 95), defBody (top 95), defScope (top 95), [], []⟩, ["machines", "times", "row", "house", "job"], ["machines", "times", "row"], ir84⟩
def fi85 : FI := ⟨⟨("_law_houses_right", none), "_law_houses_right", "_law_houses_right", defArgs (top 96), defBody (top 96), defScope (top 96), [], []⟩, ["generator", "times", "ranked", "best", "row", "house", "finished", "first", "rest", "due", "size", "machines", "job", "time", "one"], ["generator", "times"], ir85⟩
def fi86 : FI := ⟨⟨("_law_ovens_right", none), "_law_ovens_right", "_law_ovens_right", defArgs (top 97), defBody (top 97), defScope (top 97), [], []⟩, ["times", "weights", "dues", "lasts", "alone", "size", "high", "soon", "one_by_one", "room", "at", "job", "time"], ["times", "weights", "dues"], ir86⟩
def fi87 : FI := ⟨⟨("_law_around_right", none), "_law_around_right", "_law_around_right", defArgs (top 98), defBody (top 98), defScope (top 98), [], []⟩, ["times", "rest", "due", "size", "ranked", "time", "number", "at"], ["times"], ir87⟩
def fi88 : FI := ⟨⟨("law", none), "law", "law", defArgs (top 99), defBody (top 99), defScope (top 99), [], []⟩, ["script", "generator", "turn", "dues", "noted", "size", "wide", "times", "weights", "job"], ["script"], ir88⟩
def fns : List FI := ([fi0, fi1, fi2, fi3, fi4, fi5, fi6, fi7, fi8, fi9, fi10, fi11, fi12, fi13, fi14, fi15, fi16, fi17, fi18, fi19] : List FI) ++ ([fi20, fi21, fi22, fi23, fi24, fi25, fi26, fi27, fi28, fi29, fi30, fi31, fi32, fi33, fi34, fi35, fi36, fi37, fi38, fi39] : List FI) ++ ([fi40, fi41, fi42, fi43, fi44, fi45, fi46, fi47, fi48, fi49, fi50, fi51, fi52, fi53, fi54, fi55, fi56, fi57, fi58, fi59] : List FI) ++ ([fi60, fi61, fi62, fi63, fi64, fi65, fi66, fi67, fi68, fi69, fi70, fi71, fi72, fi73, fi74, fi75, fi76, fi77, fi78, fi79] : List FI) ++ ([fi80, fi81, fi82, fi83, fi84, fi85, fi86, fi87, fi88] : List FI)
def G : Gs := { cs := cs, nms := nms, fns := fns, free := ["isinstance", "bool", "int", "len", "list", "sum", "sorted", "enumerate", "str", "min", "tuple", "range", "zip", "max", "all"], con := [("MOST_JOBS", (.int 12)), ("MOST_TIME", (.int 1000)), ("MOST_WEIGHT", (.int 1000)), ("LAST_TIME", (.int 100000)), ("MOST_MACHINES", (.int 8)), ("JOB_LETTERS", (.str "abcdefghijklmnopqrstuvwxyz")), ("MOST_NAMES", (.int 60)), ("MOST_RATE", (.int 1000))] }
theorem fb0 : (fbs G.toGi)[0]? = some ⟨ir0, 1, 1⟩ := rfl
theorem fb1 : (fbs G.toGi)[1]? = some ⟨ir1, 1, 1⟩ := rfl
theorem fb2 : (fbs G.toGi)[2]? = some ⟨ir2, 2, 2⟩ := rfl
theorem fb3 : (fbs G.toGi)[3]? = some ⟨ir3, 5, 4⟩ := rfl
theorem fb4 : (fbs G.toGi)[4]? = some ⟨ir4, 1, 1⟩ := rfl
theorem fb5 : (fbs G.toGi)[5]? = some ⟨ir5, 1, 1⟩ := rfl
theorem fb6 : (fbs G.toGi)[6]? = some ⟨ir6, 2, 2⟩ := rfl
theorem fb7 : (fbs G.toGi)[7]? = some ⟨ir7, 2, 2⟩ := rfl
theorem fb8 : (fbs G.toGi)[8]? = some ⟨ir8, 2, 2⟩ := rfl
theorem fb9 : (fbs G.toGi)[9]? = some ⟨ir9, 2, 2⟩ := rfl
theorem fb10 : (fbs G.toGi)[10]? = some ⟨ir10, 3, 2⟩ := rfl
theorem fb11 : (fbs G.toGi)[11]? = some ⟨ir11, 1, 1⟩ := rfl
theorem fb12 : (fbs G.toGi)[12]? = some ⟨ir12, 1, 1⟩ := rfl
theorem fb13 : (fbs G.toGi)[13]? = some ⟨ir13, 2, 2⟩ := rfl
theorem fb14 : (fbs G.toGi)[14]? = some ⟨ir14, 5, 2⟩ := rfl
theorem fb15 : (fbs G.toGi)[15]? = some ⟨ir15, 2, 2⟩ := rfl
theorem fb16 : (fbs G.toGi)[16]? = some ⟨ir16, 2, 2⟩ := rfl
theorem fb17 : (fbs G.toGi)[17]? = some ⟨ir17, 2, 2⟩ := rfl
theorem fb18 : (fbs G.toGi)[18]? = some ⟨ir18, 1, 1⟩ := rfl
theorem fb19 : (fbs G.toGi)[19]? = some ⟨ir19, 1, 1⟩ := rfl
theorem fb20 : (fbs G.toGi)[20]? = some ⟨ir20, 2, 1⟩ := rfl
theorem fb21 : (fbs G.toGi)[21]? = some ⟨ir21, 1, 1⟩ := rfl
theorem fb22 : (fbs G.toGi)[22]? = some ⟨ir22, 2, 1⟩ := rfl
theorem fb23 : (fbs G.toGi)[23]? = some ⟨ir23, 6, 6⟩ := rfl
theorem fb24 : (fbs G.toGi)[24]? = some ⟨ir24, 3, 1⟩ := rfl
theorem fb25 : (fbs G.toGi)[25]? = some ⟨ir25, 3, 3⟩ := rfl
theorem fb26 : (fbs G.toGi)[26]? = some ⟨ir26, 6, 1⟩ := rfl
theorem fb27 : (fbs G.toGi)[27]? = some ⟨ir27, 5, 2⟩ := rfl
theorem fb28 : (fbs G.toGi)[28]? = some ⟨ir28, 3, 1⟩ := rfl
theorem fb29 : (fbs G.toGi)[29]? = some ⟨ir29, 5, 2⟩ := rfl
theorem fb30 : (fbs G.toGi)[30]? = some ⟨ir30, 3, 1⟩ := rfl
theorem fb31 : (fbs G.toGi)[31]? = some ⟨ir31, 4, 1⟩ := rfl
theorem fb32 : (fbs G.toGi)[32]? = some ⟨ir32, 2, 2⟩ := rfl
theorem fb33 : (fbs G.toGi)[33]? = some ⟨ir33, 1, 1⟩ := rfl
theorem fb34 : (fbs G.toGi)[34]? = some ⟨ir34, 1, 1⟩ := rfl
theorem fb35 : (fbs G.toGi)[35]? = some ⟨ir35, 1, 1⟩ := rfl
theorem fb36 : (fbs G.toGi)[36]? = some ⟨ir36, 1, 1⟩ := rfl
theorem fb37 : (fbs G.toGi)[37]? = some ⟨ir37, 2, 1⟩ := rfl
theorem fb38 : (fbs G.toGi)[38]? = some ⟨ir38, 2, 1⟩ := rfl
theorem fb39 : (fbs G.toGi)[39]? = some ⟨ir39, 1, 1⟩ := rfl
theorem fb40 : (fbs G.toGi)[40]? = some ⟨ir40, 4, 3⟩ := rfl
theorem fb41 : (fbs G.toGi)[41]? = some ⟨ir41, 2, 2⟩ := rfl
theorem fb42 : (fbs G.toGi)[42]? = some ⟨ir42, 2, 2⟩ := rfl
theorem fb43 : (fbs G.toGi)[43]? = some ⟨ir43, 6, 2⟩ := rfl
theorem fb44 : (fbs G.toGi)[44]? = some ⟨ir44, 6, 2⟩ := rfl
theorem fb45 : (fbs G.toGi)[45]? = some ⟨ir45, 2, 2⟩ := rfl
theorem fb46 : (fbs G.toGi)[46]? = some ⟨ir46, 1, 1⟩ := rfl
theorem fb47 : (fbs G.toGi)[47]? = some ⟨ir47, 1, 1⟩ := rfl
theorem fb48 : (fbs G.toGi)[48]? = some ⟨ir48, 4, 2⟩ := rfl
theorem fb49 : (fbs G.toGi)[49]? = some ⟨ir49, 1, 1⟩ := rfl
theorem fb50 : (fbs G.toGi)[50]? = some ⟨ir50, 3, 3⟩ := rfl
theorem fb51 : (fbs G.toGi)[51]? = some ⟨ir51, 5, 3⟩ := rfl
theorem fb52 : (fbs G.toGi)[52]? = some ⟨ir52, 4, 1⟩ := rfl
theorem fb53 : (fbs G.toGi)[53]? = some ⟨ir53, 7, 3⟩ := rfl
theorem fb54 : (fbs G.toGi)[54]? = some ⟨ir54, 6, 2⟩ := rfl
theorem fb55 : (fbs G.toGi)[55]? = some ⟨ir55, 8, 1⟩ := rfl
theorem fb56 : (fbs G.toGi)[56]? = some ⟨ir56, 1, 1⟩ := rfl
theorem fb57 : (fbs G.toGi)[57]? = some ⟨ir57, 2, 2⟩ := rfl
theorem fb58 : (fbs G.toGi)[58]? = some ⟨ir58, 5, 2⟩ := rfl
theorem fb59 : (fbs G.toGi)[59]? = some ⟨ir59, 6, 2⟩ := rfl
theorem fb60 : (fbs G.toGi)[60]? = some ⟨ir60, 2, 2⟩ := rfl
theorem fb61 : (fbs G.toGi)[61]? = some ⟨ir61, 3, 3⟩ := rfl
theorem fb62 : (fbs G.toGi)[62]? = some ⟨ir62, 6, 3⟩ := rfl
theorem fb63 : (fbs G.toGi)[63]? = some ⟨ir63, 9, 3⟩ := rfl
theorem fb64 : (fbs G.toGi)[64]? = some ⟨ir64, 3, 3⟩ := rfl
theorem fb65 : (fbs G.toGi)[65]? = some ⟨ir65, 2, 2⟩ := rfl
theorem fb66 : (fbs G.toGi)[66]? = some ⟨ir66, 3, 2⟩ := rfl
theorem fb67 : (fbs G.toGi)[67]? = some ⟨ir67, 4, 1⟩ := rfl
theorem fb68 : (fbs G.toGi)[68]? = some ⟨ir68, 4, 2⟩ := rfl
theorem fb69 : (fbs G.toGi)[69]? = some ⟨ir69, 3, 2⟩ := rfl
theorem fb70 : (fbs G.toGi)[70]? = some ⟨ir70, 4, 1⟩ := rfl
theorem fb71 : (fbs G.toGi)[71]? = some ⟨ir71, 4, 3⟩ := rfl
theorem fb72 : (fbs G.toGi)[72]? = some ⟨ir72, 6, 2⟩ := rfl
theorem fb73 : (fbs G.toGi)[73]? = some ⟨ir73, 2, 2⟩ := rfl
theorem fb74 : (fbs G.toGi)[74]? = some ⟨ir74, 10, 2⟩ := rfl
theorem fb75 : (fbs G.toGi)[75]? = some ⟨ir75, 2, 2⟩ := rfl
theorem fb76 : (fbs G.toGi)[76]? = some ⟨ir76, 3, 2⟩ := rfl
theorem fb77 : (fbs G.toGi)[77]? = some ⟨ir77, 4, 2⟩ := rfl
theorem fb78 : (fbs G.toGi)[78]? = some ⟨ir78, 2, 2⟩ := rfl
theorem fb79 : (fbs G.toGi)[79]? = some ⟨ir79, 3, 2⟩ := rfl
theorem fb80 : (fbs G.toGi)[80]? = some ⟨ir80, 4, 2⟩ := rfl
theorem fb81 : (fbs G.toGi)[81]? = some ⟨ir81, 4, 2⟩ := rfl
theorem fb82 : (fbs G.toGi)[82]? = some ⟨ir82, 2, 1⟩ := rfl
theorem fb83 : (fbs G.toGi)[83]? = some ⟨ir83, 5, 3⟩ := rfl
theorem fb84 : (fbs G.toGi)[84]? = some ⟨ir84, 5, 3⟩ := rfl
theorem fb85 : (fbs G.toGi)[85]? = some ⟨ir85, 15, 2⟩ := rfl
theorem fb86 : (fbs G.toGi)[86]? = some ⟨ir86, 13, 3⟩ := rfl
theorem fb87 : (fbs G.toGi)[87]? = some ⟨ir87, 8, 1⟩ := rfl
theorem fb88 : (fbs G.toGi)[88]? = some ⟨ir88, 10, 1⟩ := rfl
def LAWIX : Nat := 88
end Lk89

namespace Lk89
open PySem PySem.Spec PyProof.Rows L2 Z
theorem wf : wfB G = true := by decide +kernel
abbrev Rw : PySem.W.OpenRow := PySem.W.OpenLaw.row PySem.Challenge.rw_joborders_k89_whole_days_and_ovens_many
/-- the places that hold what the law's walk asks of -/
def asZ : List Addr := ([3, 6, 4, 21, 31, 54, 76, 98, 120, 142, 164, 186, 208, 229, 238, 245, 252, 257, 264, 271, 278, 285, 292, 299, 304, 311, 318, 325, 330, 337, 417, 426, 433, 438, 498, 509, 643, 654, 659, 664] : List Addr) ++ ([671, 678, 685, 690, 697, 704, 709, 714, 719, 726, 731, 738, 745, 752, 759, 766, 773, 778, 783, 790, 797, 802, 807, 814, 819, 824, 855, 866, 871, 878, 885, 892, 899, 906, 913, 918, 923, 928, 935, 940] : List Addr) ++ ([945, 950, 955, 0, 20, 30, 53, 75, 97, 119, 141, 163, 185, 207, 228, 237, 244, 251, 256, 263, 270, 277, 284, 291, 298, 303, 310, 317, 324, 329, 336, 416, 425, 432, 437, 497, 508, 642, 653, 658] : List Addr) ++ ([663, 670, 677, 684, 689, 696, 703, 708, 713, 718, 725, 730, 737, 744, 751, 758, 765, 772, 777, 782, 789, 796, 801, 806, 813, 818, 823, 854, 865, 870, 877, 884, 891, 898, 905, 912, 917, 922, 927, 934] : List Addr) ++ ([939, 944, 949, 954, 15, 16, 17, 18, 19, 29, 32, 51, 52, 73, 74, 95, 96, 117, 118, 139, 140, 161, 162, 183, 184, 205, 206, 226, 227, 232, 233, 234, 235, 236, 239, 240, 241, 242, 243, 246] : List Addr) ++ ([247, 248, 249, 250, 253, 254, 255, 258, 259, 260, 261, 262, 265, 266, 267, 268, 269, 272, 273, 274, 275, 276, 279, 280, 281, 282, 283, 286, 287, 288, 289, 290, 293, 294, 295, 296, 297, 300, 301, 302] : List Addr) ++ ([305, 306, 307, 308, 309, 312, 313, 314, 315, 316, 319, 320, 321, 322, 323, 326, 327, 328, 331, 332, 333, 334, 335, 351, 358, 365, 372, 379, 386, 393, 400, 407, 414, 415, 418, 419, 422, 423, 424, 427] : List Addr) ++ ([428, 429, 430, 431, 434, 435, 436, 452, 457, 464, 471, 476, 481, 488, 495, 496, 499, 500, 503, 504, 505, 506, 507, 523, 530, 537, 544, 551, 558, 563, 570, 577, 584, 591, 598, 605, 612, 619, 626, 633] : List Addr) ++ ([640, 641, 644, 645, 648, 649, 650, 651, 652, 655, 656, 657, 660, 661, 662, 665, 666, 667, 668, 669, 672, 673, 674, 675, 676, 679, 680, 681, 682, 683, 686, 687, 688, 691, 692, 693, 694, 695, 698, 699] : List Addr) ++ ([700, 701, 702, 705, 706, 707, 710, 711, 712, 715, 716, 717, 720, 721, 722, 723, 724, 727, 728, 729, 732, 733, 734, 735, 736, 739, 740, 741, 742, 743, 746, 747, 748, 749, 750, 753, 754, 755, 756, 757] : List Addr) ++ ([760, 761, 762, 763, 764, 767, 768, 769, 770, 771, 774, 775, 776, 779, 780, 781, 784, 785, 786, 787, 788, 791, 792, 793, 794, 795, 798, 799, 800, 803, 804, 805, 808, 809, 810, 811, 812, 815, 816, 817] : List Addr) ++ ([820, 821, 822, 838, 845, 852, 853, 856, 857, 860, 861, 862, 863, 864, 867, 868, 869, 872, 873, 874, 875, 876, 879, 880, 881, 882, 883, 886, 887, 888, 889, 890, 893, 894, 895, 896, 897, 900, 901, 902] : List Addr) ++ ([903, 904, 907, 908, 909, 910, 911, 914, 915, 916, 919, 920, 921, 924, 925, 926, 929, 930, 931, 932, 933, 936, 937, 938, 941, 942, 943, 946, 947, 948, 951, 952, 953, 50, 43, 38, 72, 65, 60, 94] : List Addr) ++ ([87, 82, 116, 109, 104, 138, 131, 126, 160, 153, 148, 182, 175, 170, 204, 197, 192, 225, 214, 350, 357, 364, 371, 378, 385, 392, 399, 406, 413, 451, 456, 463, 470, 475, 480, 487, 494, 522, 529, 536] : List Addr) ++ ([543, 550, 557, 562, 569, 576, 583, 590, 597, 604, 611, 618, 625, 632, 639, 837, 844, 851] : List Addr)
def hkZ : PySem.W.Hook where
  α := He.AlD
  obs := fun s => He.obsD (faOf G) (fnOf G.toGi) (He.frG s.heap.get? asZ)
  val := fun _ => He.valD (fnOf G.toGi)
  says := fun _ h => ∃ K : PySem.W.Frag, K.In h ∧ He.SaysD (faOf G) (fnOf G.toGi) K
  of := fun _ _ e => ⟨_, He.frG_in, e⟩
  keeps := fun _ _ _ ⟨K, hK, c⟩ k => ⟨K, PySem.W.Frag.In.keeps hK k, c⟩
def obZ (s : PySem.W.SharedT) : He.AlD := He.obsD (faOf G) (fnOf G.toGi) (He.frG (HandSHeadRun.getT s) asZ)
theorem obZ_eq (s : PySem.W.SharedT) : obZ s = hkZ.obs s.abs := by
  have e : HandSHeadRun.getT s = s.abs.heap.get? := funext (HandSHeadRun.getT_eq s)
  unfold obZ
  rw [e]
  rfl
def looseZ : List Str := (["_wall", "__name__", "WorkError", "InvalidTimes", "InvalidWeights", "InvalidOrder", "InvalidDues", "InvalidNumber", "InvalidMachines", "InvalidNames", "InvalidEdit", "NothingToUndo", "is_whole", "MOST_JOBS", "MOST_TIME", "MOST_WEIGHT", "LAST_TIME", "is_count", "is_below", "are_counts", "are_times", "check_times", "are_weights_of", "check_weights", "are_moments_of", "check_dues", "sum_over", "MOST_MACHINES", "are_machines", "check_machines"] : List Str) ++ (["check_machine_case", "least_sum_of", "least_sum", "Steps", "JOB_LETTERS", "MOST_NAMES", "is_job_name", "is_time", "written", "Day", "shortest", "House", "is_pair", "reach_of", "is_order_of", "check_order", "is_size", "check_size", "last_jobs", "MOST_RATE", "check_rate", "check_rates", "sides_of", "longest_first_of", "least_around", "spread_cost", "row_together", "least_apart", "check_jobs", "ends_of"] : List Str) ++ (["least_of", "least_waiting", "check_due", "late_of", "row_by_dues", "least_lateness", "check_room", "long_of", "longest_first", "fewest_long", "least_last", "shortest_order", "Stretches", "least_weighed", "late_from", "least_late", "_law_hash", "_law_random", "_law_cell", "_law_generator", "_law_drawn_order", "_law_exact", "_law_copied", "_law_weights", "_law_come", "_law_houses_right", "_law_ovens_right", "_law_around_right"] : List Str)
theorem runZ (w : World) : HandSHeadRun.RunEq Rw (PySem.W.view Rw.prog [99]) hkZ obZ 40000 looseZ w := by
  intro os
  kernel_rfl
end Lk89

namespace Lk89
open PySem PySem.Spec PyProof.Rows L2 Z
abbrev F : List FB := fbs G.toGi
abbrev C : List CI := G.cs
/-! ### days as plain values -/
abbrev Job : Type := Str × Int
def eJ (j : Job) : D := .tup [.str j.1, .int j.2]
def eO : Option Job → D
  | none => .non
  | some j => eJ j
structure Dy where
  now : Int
  run : List (Option Job)
  wt : List Job
  dn : List Job
  log : Str
def eDy (d : Dy) : D := .obj 1 [.int d.now, .lst (d.run.map eO), .lst (d.wt.map eJ), .lst (d.dn.map eJ), .str d.log]
section
variable {μ : Mu} {d : Dy} {j : Job} {o : Option Job} {Φ : Phi} {Q : D → Mu → Prop}
theorem i_eJ {k : Int} : idxD μ (eJ j) (.int k) = atI [.str j.1, .int j.2] k := rfl
theorem isNonO : isNon (eO o) = o.isNone := by cases o <;> rfl
theorem eO_some : eO (some j) = eJ j := rfl
theorem eO_none : eO none = .non := rfl
theorem isNonJ : isNon (eJ j) = false := rfl
theorem filt_true {α : Type} (xs : List α) : (xs.filter fun _ => true) = xs := List.filter_eq_self.mpr fun _ _ => rfl
theorem a_now : attD G.cs 4 μ (eDy d) = some (.int d.now) := rfl
theorem a_run : attD G.cs 8 μ (eDy d) = some (.lst (d.run.map eO)) := rfl
theorem a_wt : attD G.cs 9 μ (eDy d) = some (.lst (d.wt.map eJ)) := rfl
theorem a_dn : attD G.cs 10 μ (eDy d) = some (.lst (d.dn.map eJ)) := rfl
theorem a_log : attD G.cs 11 μ (eDy d) = some (.str d.log) := rfl
theorem m_next : methF G.cs 18 μ (eDy d) = some 28 := rfl
theorem m_at : methF G.cs 19 μ (eDy d) = some 27 := rfl
theorem m_begun : methF G.cs 20 μ (eDy d) = some 26 := rfl
theorem m_fin : methF G.cs 21 μ (eDy d) = some 30 := rfl
theorem m_names : methF G.cs 22 μ (eDy d) = some 24 := rfl
theorem m_ww : methF G.cs 23 μ (eDy d) = some 25 := rfl
theorem m_passed : methF G.cs 24 μ (eDy d) = some 29 := rfl
theorem mk_day {a b c e f : D} : makeD G.cs Φ 1 [a, b, c, e, f] μ = .ok (.obj 1 [a, b, c, e, f]) μ := rfl
end
local macro_rules | `(tactic| and_intros) => `(tactic| simp only [denS, denR, denE, denEs, denT, denTs, denBop, denN, denO, denC, denW, Exs.isNil, tos_seq, tos_bindR, tos_nx, tos_rt, tos_bk, tos_ct, to_bind, to_noex, to_ok, to_some, to_ite, to_fit, to_map, to_obind, tob_nil, var_z, var_o, var_s, set_z, set_s, Option.map_some, Option.bind_some, b_add, b_sub, b_mul, b_div, b_mod, b_pow, b_adds, b_addl, b_mull, c_lt, c_le, c_gt, c_ge, c_is, c_isn, c_eq, c_ne, e_int, t_bl, t_int, t_lst, t_non, i_tup, i_lst, i_loc, at0, at1, at2, l_lst, m_lst, l_scr, f_int, f_len, f_lens, f_lent, f_sum, f_max2, f_min2, bt_bits, bd_bits, g_rng1, g_rng2, List.set_cons_zero, List.set_cons_succ, wipeR, i_eJ, isNonO, eO_some, eO_none, isNonJ, Option.isNone_some, Option.isNone_none, Bool.not_false, Bool.not_true, a_now, a_run, a_wt, a_dn, a_log, m_next, m_at, m_begun, m_fin, m_names, m_ww, m_passed, mk_day, List.map_cons, List.map_nil, List.length_cons, List.length_nil, List.replicate, List.cons_append, List.nil_append])
local macro_rules | `(tactic| trivial) => `(tactic| first | exact ⟨rfl, rfl⟩ | exact ⟨True.intro, True.intro⟩ | exact ⟨rfl, True.intro⟩ | exact ⟨True.intro, rfl⟩ | exact True.intro | rfl)
def ends (r : List (Option Job)) : List Int := r.filterMap fun o => o.map (·.2)
def nextEnd (r : List (Option Job)) : Option Int := match ends r with
  | [] => none
  | e :: es => some (minI e es)
def eI : Option Int → D
  | none => .non
  | some i => .int i
theorem filter_ends (r : List (Option Job)) (f : Option Job → D) (h : ∀ j, f (some j) = .int j.2) : (r.filter fun o => !o.isNone).map f = (ends r).map .int := by
  induction r with
  | nil => rfl
  | cons o r ih =>
    cases o with
    | none => simpa [ends] using ih
    | some j => simp [ends, h] at ih ⊢; exact ih
theorem next_to {n : Nat} {μ : Mu} {d : Dy} {Q : D → Mu → Prop} (hl : d.run.length ≤ 1000) (hq : Q (eI (nextEnd d.run)) μ) : R.To (phi G.cs (fbs G.toGi) (n + 1) 28 [eDy d] μ) Q := by
  refine to_phi fb28 rfl ?_
  unfold ir28
  refine tob_cons ?_
  and_intros
  refine cmp_to eO (fun o => !o.isNone) (fun o => match o with
    | some j => .int j.2
    | none => .non) d.run [] (fun o ho => ⟨[.val (eDy d), .emp, .val (eO o)], rfl, ?_, fun h => ?_⟩) (by show 0 + d.run.length ≤ 2 ^ 24; omega) ?_
  · and_intros
    trivial
  · cases o with
    | none => cases h
    | some j =>
      and_intros
      trivial
  · rw [List.nil_append, filter_ends _ _ fun j => rfl]
    refine tob_cons ?_
    and_intros
    rw [eq_nil fun x hx => by
      obtain ⟨u, _, rfl⟩ := List.mem_map.mp hx
      exact pln_int]
    and_intros
    unfold nextEnd at hq
    revert hq
    cases ends d.run with
    | nil => exact fun hq => ⟨by decide, hq⟩
    | cons e es =>
      intro hq
      refine ⟨by decide, ?_⟩
      simp only [List.map_cons, List.isEmpty_cons, Bool.not_false]
      and_intros
      show R.To (R.opt (match intsD ((e :: es).map .int) with
        | some (m :: r) => some (D.int (minI m r))
        | _ => none) μ) _
      rw [Z.ints_map]
      exact hq
/-! ### at a moment -/
def over (m : Int) (o : Option Job) : Bool := match o with
  | some j => decide (j.2 ≤ m)
  | none => false
def atM (m : Int) (d : Dy) : Dy := { d with now := m, run := d.run.map fun o => if over m o then none else o, dn := d.dn ++ (d.run.filter (over m)).filterMap id }
theorem over_map (m : Int) (r : List (Option Job)) : (r.filter (over m)).map eO = ((r.filter (over m)).filterMap id).map eJ := by
  induction r with
  | nil => rfl
  | cons o r ih =>
    rw [List.filter_cons]
    split
    · cases o with
      | none => rename_i h; cases h
      | some j => simp only [List.map_cons, List.filterMap_cons, id, ih]; rfl
    · exact ih
theorem at_to {n : Nat} {μ : Mu} {d : Dy} {m : Int} {Q : D → Mu → Prop} (hl : d.run.length ≤ 1000) (hdn : d.dn.length ≤ 1000) (hq : Q (eDy (atM m d)) μ) : R.To (phi G.cs (fbs G.toGi) (n + 1) 27 [eDy d, .int m] μ) Q := by
  have tst : ∀ o : Option Job, ∀ ρ1 : Rho, ρ1[0]? = some (.val (eDy d)) → True := fun _ _ _ => trivial
  have h24 : (2 ^ 24 : Nat) = 16777216 := by decide
  refine to_phi fb27 rfl ?_
  unfold ir27
  refine tob_cons ?_
  and_intros
  refine cmp_to eO (over m) eO d.run [] (fun o ho => ⟨[.val (eDy d), .val (.int m), .emp, .emp, .val (eO o)], rfl, ?_, fun h => ?_⟩) (by show 0 + d.run.length ≤ 2 ^ 24; omega) ?_
  · cases o with
    | none =>
      and_intros
      trivial
    | some j =>
      and_intros
      unfold over
      cases hd : decide (j.2 ≤ m) <;> and_intros <;> first | exact ⟨hd.symm, True.intro⟩ | exact ⟨hd.symm, rfl⟩
  · and_intros
    trivial
  rw [List.nil_append, over_map]
  refine tob_cons ?_
  and_intros
  refine cmp_to eO (fun _ => true) (fun o => eO (if over m o then none else o)) d.run [] (fun o ho => ⟨[.val (eDy d), .val (.int m), .val (.lst (((d.run.filter (over m)).filterMap id).map eJ)), .emp, .val (eO o)], rfl, ?_, fun h => ?_⟩) (by show 0 + d.run.length ≤ 2 ^ 24; omega) ?_
  · trivial
  · cases o with
    | none =>
      and_intros
      trivial
    | some j =>
      and_intros
      cases hd : decide (j.2 ≤ m) with
      | true =>
        and_intros
        first | exact ⟨by simp [over, hd, eO], rfl⟩ | exact ⟨by simp [over, hd, eO], True.intro⟩
      | false =>
        and_intros
        first | exact ⟨by simp [over, hd, eO], rfl⟩ | exact ⟨by simp [over, hd, eO], True.intro⟩
  · refine tob_cons ?_
    and_intros
    have hf : ((d.run.filter (over m)).filterMap id).length ≤ d.run.length := Nat.le_trans (List.length_filterMap_le _ _) (List.length_filter_le _ _)
    have h2 : fits ((d.dn.map eJ).length + (((d.run.filter (over m)).filterMap id).map eJ).length) = true := decide_eq_true (by
      rw [List.length_map, List.length_map]
      show _ ≤ 2 ^ 24
      omega)
    refine ⟨h2, ?_⟩
    have e : eDy (atM m d) = .obj 1 [.int m, .lst (((d.run.filter fun _ => true).map fun o => eO (if over m o then none else o))), .lst (d.wt.map eJ), .lst (d.dn.map eJ ++ ((d.run.filter (over m)).filterMap id).map eJ), .str d.log] := by
      unfold eDy atM
      simp only [filt_true, List.map_map, Function.comp_def, List.map_append]
    rw [e] at hq
    exact hq
/-! ### the shortest -/
def j0 : Job := ("", 0)
/-- the best place behind j turns -/
def shB (w : List Job) : Nat → Nat
  | 0 => 0
  | j + 1 => if (w.getD j j0).2 < (w.getD (shB w j) j0).2 then j else shB w j
def sh (w : List Job) : Nat := shB w w.length
theorem shB_lt (w : List Job) : ∀ j, shB w j = 0 ∨ shB w j < j
  | 0 => .inl rfl
  | j + 1 => by
    unfold shB
    split
    · exact .inr (by omega)
    · rcases shB_lt w j with h | h
      · exact .inl h
      · exact .inr (by omega)
theorem shB_le (w : List Job) : ∀ j i, i < j → (w.getD (shB w j) j0).2 ≤ (w.getD i j0).2
  | 0, i, h => absurd h (Nat.not_lt_zero i)
  | j + 1, i, h => by
    unfold shB
    split
    · rename_i hlt
      by_cases e : i = j
      · subst e; exact Int.le_refl _
      · exact Int.le_trans (Int.le_of_lt hlt) (shB_le w j i (by omega))
    · rename_i hlt
      by_cases e : i = j
      · subst e; omega
      · exact shB_le w j i (by omega)
theorem sh_lt {w : List Job} (h : w ≠ []) : sh w < w.length := by
  have := List.length_pos_iff.mpr h
  rcases shB_lt w w.length with e | e
  · unfold sh; omega
  · exact e
theorem at_map {w : List Job} {k : Nat} (h : k < w.length) : atI (w.map eJ) (k : Int) = some (eJ (w.getD k j0)) := by
  have hk : k < (w.map eJ).length := by rw [List.length_map]; exact h
  rw [at_nat hk, List.getElem_map, List.getD_eq_getElem?_getD, List.getElem?_eq_getElem h]
  rfl
theorem short_to {n : Nat} {μ : Mu} {w : List Job} {Q : D → Mu → Prop} (hw : w ≠ []) (hq : Q (.int (sh w : Nat)) μ) : R.To (phi G.cs (fbs G.toGi) (n + 1) 31 [.lst (w.map eJ)] μ) Q := by
  have hlen := List.length_pos_iff.mpr hw
  refine to_phi fb31 rfl ?_
  unfold ir31
  refine tob_cons ?_
  and_intros
  refine tob_cons ?_
  and_intros
  show RS.To (forGo _ _ (enuItems 0 (w.map eJ)) _ _) _
  refine for_to (fun j ρ μ' => ∃ s t, ρ = [.val (.lst (w.map eJ)), .val (.int (shB w j : Nat)), s, t] ∧ μ' = μ) _ 0 _ _ ⟨.emp, .emp, rfl, rfl⟩ ?_ ?_
  · rintro i x ρ μ' hx ⟨s, t, rfl, rfl⟩
    obtain ⟨y, hy, rfl⟩ := enu_items hx
    have hi : i < w.length := by
      have := (List.getElem?_eq_some_iff.mp hy).1
      simpa using this
    have ey : y = eJ (w.getD i j0) := by
      rw [List.getElem?_map, List.getElem?_eq_getElem hi] at hy
      rw [List.getD_eq_getElem?_getD, List.getElem?_eq_getElem hi]
      exact (Option.some.inj hy).symm
    subst ey
    rw [Nat.zero_add]
    have hb : shB w i < w.length := by
      rcases shB_lt w i with e | e <;> omega
    refine ⟨[.val (.lst (w.map eJ)), .val (.int (shB w i : Nat)), .val (.int (i : Nat)), .val (eJ (w.getD i j0))], rfl, ?_⟩
    refine tob_cons ?_
    and_intros
    rw [at_map hb]
    and_intros
    have e : shB w (i + 1) = if (w.getD i j0).2 < (w.getD (shB w i) j0).2 then i else shB w i := rfl
    by_cases hlt : (w.getD i j0).2 < (w.getD (shB w i) j0).2
    · simp only [hlt, decide_true]
      refine tob_cons ?_
      and_intros
      rw [e, if_pos hlt]
      exact ⟨_, _, rfl, by trivial⟩
    · simp only [hlt, decide_false]
      and_intros
      rw [e, if_neg hlt]
      exact ⟨_, _, rfl, by trivial⟩
  · rintro ρ μ' ⟨s, t, rfl, rfl⟩
    dsimp only
    refine tob_cons ?_
    and_intros
    rw [enu_length, List.length_map, Nat.zero_add]
    exact hq
/-! ### begun -/
def bg1 (now : Int) (o : Option Job) (w : List Job) : Option Job × List Job := match o, w with
  | none, j :: r => (some (((j :: r).getD (sh (j :: r)) j0).1, now + ((j :: r).getD (sh (j :: r)) j0).2), (j :: r).eraseIdx (sh (j :: r)))
  | o, w => (o, w)
def bg (now : Int) (xs : List (Option Job)) (w : List Job) : List (Option Job) × List Job := xs.foldl (fun p o => (p.1 ++ [(bg1 now o p.2).1], (bg1 now o p.2).2)) ([], w)
def begD (d : Dy) : Dy := { d with run := (bg d.now d.run d.wt).1, wt := (bg d.now d.run d.wt).2 }
theorem bg_succ (now : Int) (xs : List (Option Job)) (w : List Job) {i : Nat} {o : Option Job} (h : xs[i]? = some o) : bg now (xs.take (i + 1)) w = ((bg now (xs.take i) w).1 ++ [(bg1 now o (bg now (xs.take i) w).2).1], (bg1 now o (bg now (xs.take i) w).2).2) := by
  unfold bg
  rw [List.take_add_one, h, List.foldl_append]
  rfl
theorem bg_len (now : Int) (xs : List (Option Job)) (w : List Job) : ∀ i, i ≤ xs.length → (bg now (xs.take i) w).1.length = i
  | 0, _ => rfl
  | i + 1, h => by
    rw [bg_succ now xs w (List.getElem?_eq_getElem (show i < xs.length by omega)), List.length_append, bg_len now xs w i (by omega)]
    rfl
theorem bg1_wlen (now : Int) (o : Option Job) (w : List Job) : (bg1 now o w).2.length ≤ w.length ∧ ∀ x ∈ (bg1 now o w).2, x ∈ w := by
  unfold bg1
  split
  · exact ⟨List.length_eraseIdx_le _ _, fun x hx => List.mem_of_mem_eraseIdx hx⟩
  · exact ⟨Nat.le_refl _, fun _ h => h⟩
theorem bg_wlen (now : Int) (xs : List (Option Job)) (w : List Job) : ∀ i, i ≤ xs.length → (bg now (xs.take i) w).2.length ≤ w.length ∧ ∀ x ∈ (bg now (xs.take i) w).2, x ∈ w
  | 0, _ => ⟨Nat.le_refl _, fun _ h => h⟩
  | i + 1, h => by
    rw [bg_succ now xs w (List.getElem?_eq_getElem (show i < xs.length by omega))]
    have h1 := bg1_wlen now xs[i] (bg now (xs.take i) w).2
    have h2 := bg_wlen now xs w i (by omega)
    exact ⟨Nat.le_trans h1.1 h2.1, fun x hx => h2.2 x (h1.2 x hx)⟩
theorem cut_pre {α : Type} {xs : List α} {k : Nat} (h : k ≤ xs.length) : Z.cutD xs none (some (k : Int)) = xs.take k := by
  unfold Z.cutD
  rw [HT.sIx_none, HT.sIx_nat, Nat.min_eq_left h, Nat.sub_zero, List.drop_zero]
theorem cut_suf {α : Type} {xs : List α} {k : Nat} (h : k ≤ xs.length) : Z.cutD xs (some (k : Int)) none = xs.drop k := by
  unfold Z.cutD
  rw [HT.sIx_none, HT.sIx_nat, Nat.min_eq_left h]
  exact List.take_of_length_le (by rw [List.length_drop]; omega)
theorem set_nat {xs : List D} {k : Nat} {d : D} (h : k < xs.length) : setK xs (d, .int (k : Nat)) = some (xs.set k d) := by
  show (ixN xs.length (k : Int)).map _ = _
  unfold ixN
  rw [if_pos (by omega), if_pos (by omega)]
  rfl
theorem pln_J {j : Job} (h : (PyData.str j.1).canLay0 = true) : Pln 62 (eJ j) := pln_tup (k := 61) fun x hx => by
  rcases List.mem_cons.mp hx with rfl | hx
  · exact pln_str h
  · rcases List.mem_cons.mp hx with rfl | hx
    · exact pln_int
    · cases hx
theorem begun_to {n : Nat} {μ : Mu} {d : Dy} {Q : D → Mu → Prop} (hl : d.run.length ≤ 1000) (hw : d.wt.length ≤ 1000) (hn : ∀ j ∈ d.wt, (PyData.str j.1).canLay0 = true) (hq : Q (eDy (begD d)) μ) : R.To (phi G.cs (fbs G.toGi) (n + 2) 26 [eDy d] μ) Q := by
  refine to_phi fb26 rfl ?_
  unfold ir26
  refine tob_cons ?_
  and_intros
  refine tob_cons ?_
  and_intros
  refine tob_cons ?_
  and_intros
  show RS.To (forGo _ _ (enuItems 0 (d.run.map eO)) _ _) _
  refine for_to (fun j ρ μ' => ∃ s t u, ρ = [.val (eDy d), .own ((bg d.now (d.run.take j) d.wt).1.map eO ++ (d.run.drop j).map eO), .val (.lst ((bg d.now (d.run.take j) d.wt).2.map eJ)), s, t, u] ∧ μ' = μ) _ 0 _ _ ⟨.emp, .emp, .emp, rfl, rfl⟩ ?_ ?_
  · rintro i x ρ μ' hx ⟨s, t, u, rfl, rfl⟩
    obtain ⟨y, hy, rfl⟩ := enu_items hx
    have hi : i < d.run.length := by
      have := (List.getElem?_eq_some_iff.mp hy).1
      simpa using this
    have er : d.run[i]? = some d.run[i] := List.getElem?_eq_getElem hi
    have ey : y = eO d.run[i] := by
      rw [List.getElem?_map, er] at hy
      exact (Option.some.inj hy).symm
    subst ey
    rw [Nat.zero_add]
    have hs := bg_succ d.now d.run d.wt er
    have hlen := bg_len d.now d.run d.wt i (by omega)
    have hwl := bg_wlen d.now d.run d.wt i (by omega)
    revert hs hlen hwl
    generalize bg d.now (d.run.take i) d.wt = p
    obtain ⟨p, w⟩ := p
    intro hs hlen hwl
    have hlen : p.length = i := hlen
    have hwl1 : w.length ≤ d.wt.length := hwl.1
    have hwl2 : ∀ x ∈ w, x ∈ d.wt := hwl.2
    have edrop : d.run.drop i = d.run[i] :: d.run.drop (i + 1) := List.drop_eq_getElem_cons hi
    generalize hoi : d.run[i] = o at *
    refine ⟨[.val (eDy d), .own (p.map eO ++ (d.run.drop i).map eO), .val (.lst (w.map eJ)), .val (.int (i : Nat)), .val (eO o), u], rfl, ?_⟩
    refine tob_cons ?_
    and_intros
    cases o with
    | some j =>
      and_intros
      rw [hs, edrop]
      exact ⟨.val (.int (i : Nat)), .val (eJ j), u, by simp [bg1, eO_some], by trivial⟩
    | none =>
      and_intros
      rw [eq_nil fun x hx => by
        obtain ⟨z, hz, rfl⟩ := List.mem_map.mp hx
        exact (pln_J (hn z (hwl2 z hz))).mono (by omega)]
      and_intros
      cases w with
      | nil =>
        refine ⟨by decide, ?_⟩
        simp only [List.map_nil, List.isEmpty_nil]
        and_intros
        rw [hs, edrop]
        exact ⟨.val (.int (i : Nat)), .val .non, u, by simp [bg1, eO_none], by trivial⟩
      | cons j r =>
        refine ⟨by decide, ?_⟩
        simp only [List.map_cons, List.isEmpty_cons]
        and_intros
        have hk := sh_lt (w := j :: r) (by simp)
        refine tob_cons ?_
        and_intros
        refine short_to (w := j :: r) (by simp) ?_
        and_intros
        generalize hkk : sh (j :: r) = kk at hk ⊢
        have hat : atI (eJ j :: r.map eJ) (kk : Int) = some (eJ ((j :: r).getD kk j0)) := at_map hk
        have hlr : (j :: r).length ≤ 1000 := by
          have : (j :: r).length ≤ d.wt.length := hwl1
          omega
        refine tob_cons ?_
        and_intros
        simp only [hat]
        and_intros
        refine ⟨by decide, chg_own rfl ?_⟩
        and_intros
        have hset : setK (p.map eO ++ (d.run.drop i).map eO) (D.tup [.str ((j :: r).getD kk j0).1, .int (d.now + ((j :: r).getD kk j0).2)], .int (i : Nat)) = some (p.map eO ++ eO (some (((j :: r).getD kk j0).1, d.now + ((j :: r).getD kk j0).2)) :: (d.run.drop (i + 1)).map eO) := by
          rw [set_nat (by rw [List.length_append, List.length_map, List.length_map, List.length_drop]; omega)]
          congr 1
          rw [List.set_append_right _ _ (by rw [List.length_map, hlen]; exact Nat.le_refl _), List.length_map, hlen, Nat.sub_self, edrop]
          rfl
        refine ⟨_, _, hset, rfl, ?_⟩
        refine tob_cons ?_
        and_intros
        show R.To (R.opt (some (D.lst (Z.cutD (List.map eJ (j :: r)) none (some (kk : Int))))) μ') _
        rw [cut_map, cut_pre (show kk ≤ (j :: r).length by omega)]
        and_intros
        show R.To (R.opt (some (D.lst (Z.cutD (List.map eJ (j :: r)) (some ((kk : Int) + 1)) none))) μ') _
        rw [cut_map, show ((kk : Int) + 1) = ((kk + 1 : Nat) : Int) by omega, cut_suf (show kk + 1 ≤ (j :: r).length by omega)]
        and_intros
        refine ⟨decide_eq_true (by
          rw [List.length_map, List.length_map, List.length_take, List.length_drop]
          have h24 : sizeLine = 16777216 := by decide
          omega), ?_⟩
        rw [hs]
        refine ⟨.val (.int (i : Nat)), .val .non, .val (.int (kk : Nat)), ?_, by trivial⟩
        simp only [bg1, hkk, List.map_append, List.map_cons, List.map_nil, List.append_assoc, List.cons_append, List.nil_append, List.eraseIdx_eq_take_drop_succ, eO_some]
  · rintro ρ μ' ⟨s, t, u, rfl, rfl⟩
    dsimp only
    rw [enu_length, List.length_map, Nat.zero_add, List.take_length, List.drop_length]
    refine tob_cons ?_
    refine frz_to rfl ?_
    and_intros
    refine tob_cons ?_
    and_intros
    have e : eDy (begD d) = .obj 1 [.int d.now, .lst ((bg d.now d.run d.wt).1.map eO ++ ([] : List (Option Job)).map eO), .lst ((bg d.now d.run d.wt).2.map eJ), .lst (d.dn.map eJ), .str d.log] := by
      unfold eDy begD
      rw [List.map_nil, List.append_nil]
    rw [e] at hq
    exact hq
/-! ### one event after another -/
def mL (d : Dy) : Nat := (ends d.run).length + d.wt.length
def stp (d : Dy) (e : Int) : Dy := begD (atM e d)
def finN : Nat → Dy → Dy
  | 0, d => d
  | k + 1, d => match nextEnd d.run with
    | none => d
    | some e => finN k (stp d e)
theorem ends_app (a b : List (Option Job)) : ends (a ++ b) = ends a ++ ends b := List.filterMap_append
theorem bg1_mL (now : Int) (o : Option Job) (w : List Job) : (ends [(bg1 now o w).1]).length + (bg1 now o w).2.length = (ends [o]).length + w.length := by
  unfold bg1
  split
  · rename_i j r
    have := sh_lt (w := j :: r) (by simp)
    rw [List.length_eraseIdx_of_lt this]
    simp [ends]
    omega
  · rfl
theorem bg_mL (now : Int) (xs : List (Option Job)) (w : List Job) : ∀ i, i ≤ xs.length → (ends (bg now (xs.take i) w).1).length + (bg now (xs.take i) w).2.length = (ends (xs.take i)).length + w.length
  | 0, _ => rfl
  | i + 1, h => by
    have er := List.getElem?_eq_getElem (show i < xs.length by omega)
    rw [bg_succ now xs w er]
    have ih := bg_mL now xs w i (by omega)
    have h1 := bg1_mL now xs[i] (bg now (xs.take i) w).2
    rw [List.take_add_one, er]
    simp only [ends_app, List.length_append, Option.toList_some]
    omega
theorem beg_mL (d : Dy) : mL (begD d) = mL d := by
  have := bg_mL d.now d.run d.wt d.run.length (Nat.le_refl _)
  rw [List.take_length] at this
  exact this
theorem beg_run (d : Dy) : (begD d).run.length = d.run.length := by
  have := bg_len d.now d.run d.wt d.run.length (Nat.le_refl _)
  rw [List.take_length] at this
  exact this
theorem beg_wt (d : Dy) : ∀ x ∈ (begD d).wt, x ∈ d.wt := by
  have := (bg_wlen d.now d.run d.wt d.run.length (Nat.le_refl _)).2
  rw [List.take_length] at this
  exact this
theorem at_ends (m : Int) : ∀ r : List (Option Job), (ends (r.map fun o => if over m o then none else o)).length + ((r.filter (over m)).filterMap id).length = (ends r).length
  | [] => rfl
  | o :: r => by
    have ih := at_ends m r
    rw [List.map_cons, List.filter_cons]
    cases o with
    | none => simpa [over, ends] using ih
    | some j =>
      by_cases h : j.2 ≤ m
      · simp [over, ends, h] at ih ⊢; omega
      · simp [over, ends, h] at ih ⊢; omega
theorem next_mem {r : List (Option Job)} {e : Int} (h : nextEnd r = some e) : e ∈ ends r ∧ ∀ x ∈ ends r, e ≤ x := by
  unfold nextEnd at h
  cases hr : ends r with
  | nil => rw [hr] at h; cases h
  | cons a l =>
    rw [hr] at h
    have h' : minI a l = e := Option.some.inj h
    obtain ⟨h1, h2, h3⟩ := minI_le l a
    rw [h'] at h1 h2 h3
    refine ⟨?_, fun x hx => ?_⟩
    · rcases h3 with z | z
      · rw [z]; exact List.mem_cons_self ..
      · exact List.mem_cons_of_mem _ z
    · rcases List.mem_cons.mp hx with rfl | hx
      · exact h1
      · exact h2 x hx
theorem over_pos {r : List (Option Job)} {e : Int} (h : e ∈ ends r) : 0 < ((r.filter (over e)).filterMap id).length := by
  unfold ends at h
  obtain ⟨o, ho, hj⟩ := List.mem_filterMap.mp h
  cases o with
  | none => cases hj
  | some j =>
    have ej : j.2 = e := Option.some.inj hj
    refine List.length_pos_of_mem (a := j) (List.mem_filterMap.mpr ⟨some j, List.mem_filter.mpr ⟨ho, ?_⟩, rfl⟩)
    show decide (j.2 ≤ e) = true
    exact decide_eq_true (by omega)
theorem at_mL (d : Dy) (e : Int) : mL (atM e d) + (atM e d).dn.length = mL d + d.dn.length ∧ (e ∈ ends d.run → mL (atM e d) < mL d) := by
  have h1 := at_ends e d.run
  have e1 : mL (atM e d) = (ends (d.run.map fun o => if over e o then none else o)).length + d.wt.length := rfl
  have e2 : (atM e d).dn.length = d.dn.length + ((d.run.filter (over e)).filterMap id).length := List.length_append
  have e3 : mL d = (ends d.run).length + d.wt.length := rfl
  refine ⟨by omega, fun h => ?_⟩
  have := over_pos h
  omega
theorem stp_mL {d : Dy} {e : Int} (h : nextEnd d.run = some e) : mL (stp d e) < mL d := by
  unfold stp
  rw [beg_mL]
  exact (at_mL d e).2 (next_mem h).1
theorem finN_more : ∀ (k l : Nat) (d : Dy), mL d ≤ k → mL d ≤ l → finN k d = finN l d
  | 0, l, d, hk, hl => by
    have hz : ends d.run = [] := by
      have : (ends d.run).length = 0 := by unfold mL at hk; omega
      exact List.length_eq_zero_iff.mp this
    have hn : nextEnd d.run = none := by unfold nextEnd; rw [hz]
    cases l with
    | zero => rfl
    | succ l => unfold finN; rw [hn]
  | k + 1, l, d, hk, hl => by
    cases hn : nextEnd d.run with
    | none =>
      cases l with
      | zero => unfold finN; rw [hn]
      | succ l => unfold finN; rw [hn]
    | some e =>
      have := stp_mL hn
      cases l with
      | zero => omega
      | succ l =>
        unfold finN
        rw [hn]
        exact finN_more k l (stp d e) (by omega) (by omega)
def fin (d : Dy) : Dy := finN (mL d) d
theorem fin_stp {d : Dy} {e : Int} (h : nextEnd d.run = some e) : fin (stp d e) = fin d := by
  have := stp_mL h
  have e1 : fin d = finN (mL d - 1 + 1) d := finN_more _ _ d (Nat.le_refl _) (by omega)
  rw [e1]
  unfold finN
  rw [h]
  exact finN_more _ _ _ (Nat.le_refl _) (by omega)
theorem fin_end {d : Dy} (h : nextEnd d.run = none) : fin d = d := by
  unfold fin
  cases mL d with
  | zero => rfl
  | succ k => unfold finN; rw [h]
end Lk89

namespace Lk89
open PySem PySem.Spec PyProof.Rows L2 Z
local macro_rules | `(tactic| and_intros) => `(tactic| simp only [denS, denR, denE, denEs, denT, denTs, denBop, denN, denO, denC, denW, Exs.isNil, tos_seq, tos_bindR, tos_nx, tos_rt, tos_bk, tos_ct, to_bind, to_noex, to_ok, to_some, to_ite, to_fit, to_map, to_obind, tob_nil, var_z, var_o, var_s, set_z, set_s, Option.map_some, Option.bind_some, b_add, b_sub, b_mul, b_div, b_mod, b_pow, b_adds, b_addl, b_mull, c_lt, c_le, c_gt, c_ge, c_is, c_isn, c_eq, c_ne, e_int, t_bl, t_int, t_lst, t_non, i_tup, i_lst, i_loc, at0, at1, at2, l_lst, m_lst, l_scr, f_int, f_len, f_lens, f_lent, f_sum, f_max2, f_min2, bt_bits, bd_bits, g_rng1, g_rng2, List.set_cons_zero, List.set_cons_succ, wipeR, i_eJ, isNonO, eO_some, eO_none, isNonJ, Option.isNone_some, Option.isNone_none, Bool.not_false, Bool.not_true, a_now, a_run, a_wt, a_dn, a_log, m_next, m_at, m_begun, m_fin, m_names, m_ww, m_passed, mk_day, List.map_cons, List.map_nil, List.length_cons, List.length_nil, List.replicate, List.cons_append, List.nil_append])
local macro_rules | `(tactic| trivial) => `(tactic| first | exact ⟨rfl, rfl⟩ | exact ⟨True.intro, True.intro⟩ | exact ⟨rfl, True.intro⟩ | exact ⟨True.intro, rfl⟩ | exact True.intro | rfl)
def nmOk (x : Str) : Prop := (PyData.str x).canLay0 = true
structure OkD (d : Dy) : Prop where
  rl : d.run.length ≤ 8
  cnt : mL d + d.dn.length ≤ 100
  nw : ∀ j ∈ d.wt, nmOk j.1
  nd : ∀ j ∈ d.dn, nmOk j.1
  nr : ∀ j, some j ∈ d.run → nmOk j.1
theorem OkD.wl {d : Dy} (h : OkD d) : d.wt.length ≤ 100 ∧ d.dn.length ≤ 100 ∧ d.run.length ≤ 1000 := by
  have h1 := h.cnt
  have h2 := h.rl
  unfold mL at h1
  omega
theorem OkD.at_ {d : Dy} (h : OkD d) (e : Int) : OkD (atM e d) := by
  refine ⟨?_, ?_, h.nw, fun j hj => ?_, fun j hj => ?_⟩
  · have := h.rl
    show (d.run.map _).length ≤ 8
    rw [List.length_map]; exact this
  · have := (at_mL d e).1
    have := h.cnt
    omega
  · rcases List.mem_append.mp hj with hj | hj
    · exact h.nd j hj
    · obtain ⟨o, ho, ej⟩ := List.mem_filterMap.mp hj
      have eo : o = some j := ej
      rw [eo] at ho
      exact h.nr j (List.mem_filter.mp ho).1
  · obtain ⟨o, ho, ej⟩ := List.mem_map.mp hj
    split at ej
    · cases ej
    · rw [ej] at ho; exact h.nr j ho
theorem bg_mem (now : Int) (xs : List (Option Job)) (w : List Job) : ∀ i, i ≤ xs.length → ∀ j, some j ∈ (bg now (xs.take i) w).1 → some j ∈ xs ∨ ∃ x ∈ w, j = (x.1, now + x.2)
  | 0, _, j, h => by cases h
  | i + 1, h, j, hj => by
    have er := List.getElem?_eq_getElem (show i < xs.length by omega)
    rw [bg_succ now xs w er] at hj
    rcases List.mem_append.mp hj with hj | hj
    · exact bg_mem now xs w i (by omega) j hj
    · have hj' : some j = (bg1 now xs[i] (bg now (xs.take i) w).2).1 := by simpa using hj
      have hsub := (bg_wlen now xs w i (by omega)).2
      revert hj' hsub
      generalize (bg now (xs.take i) w).2 = v
      intro hj' hsub
      unfold bg1 at hj'
      split at hj'
      · rename_i a r _
        refine .inr ⟨(a :: r).getD (sh (a :: r)) j0, hsub _ ?_, Option.some.inj hj'⟩
        have hl := sh_lt (w := a :: r) (by simp)
        rw [List.getD_eq_getElem?_getD, List.getElem?_eq_getElem hl]
        exact List.getElem_mem hl
      · exact .inl (by rw [hj']; exact List.getElem_mem _)
theorem OkD.beg {d : Dy} (h : OkD d) : OkD (begD d) := by
  refine ⟨by rw [beg_run]; exact h.rl, by rw [beg_mL]; exact h.cnt, fun j hj => h.nw j (beg_wt d j hj), h.nd, fun j hj => ?_⟩
  have := bg_mem d.now d.run d.wt d.run.length (Nat.le_refl _) j
  rw [List.take_length] at this
  rcases this hj with z | ⟨x, hx, rfl⟩
  · exact h.nr j z
  · exact h.nw x hx
theorem OkD.stp {d : Dy} (h : OkD d) (e : Int) : OkD (stp d e) := (h.at_ e).beg
/-! ### finished -/
theorem eI_some {e : Int} : eI (some e) = .int e := rfl
theorem eI_none : eI none = .non := rfl
theorem isNonI {o : Option Int} : isNon (eI o) = o.isNone := by cases o <;> rfl
theorem isNonInt {e : Int} : Z.isNon (.int e) = false := rfl
theorem isNonN : Z.isNon .non = true := rfl
theorem fin_to {n : Nat} {μ : Mu} {d : Dy} {Q : D → Mu → Prop} (hd : OkD d) (hq : Q (eDy (fin d)) μ) : R.To (phi G.cs (fbs G.toGi) (n + 3) 30 [eDy d] μ) Q := by
  refine to_phi fb30 rfl ?_
  unfold ir30
  refine tob_cons ?_
  and_intros
  refine tob_cons ?_
  and_intros
  refine next_to hd.wl.2.2 ?_
  and_intros
  refine tob_cons ?_
  show RS.To (whlGo _ _ 1099511627776 _ _) _
  refine whl_to (fun m ρ μ' => ∃ d', ρ = [.val (eDy d), .val (eDy d'), .val (eI (nextEnd d'.run))] ∧ μ' = μ ∧ OkD d' ∧ m = mL d' ∧ fin d' = fin d) ?_ _ (mL d) _ _ (by have := hd.cnt; omega) ⟨d, rfl, rfl, hd, rfl, rfl⟩
  rintro m ρ μ' ⟨d', rfl, rfl, hd', rfl, hf⟩
  and_intros
  cases hn : nextEnd d'.run with
  | none =>
    simp only [eI_none, isNonN]
    and_intros
    refine tob_cons ?_
    and_intros
    rw [← hf, fin_end hn] at hq
    exact hq
  | some e =>
    simp only [eI_some, isNonInt]
    and_intros
    refine tob_cons ?_
    and_intros
    refine at_to hd'.wl.2.2 (by have := hd'.wl.2.1; omega) ?_
    and_intros
    have ha := hd'.at_ e
    refine begun_to ha.wl.2.2 (by have := ha.wl.1; omega) (fun j hj => ha.nw j hj) ?_
    and_intros
    have hs := hd'.stp e
    refine tob_cons ?_
    and_intros
    refine next_to hs.wl.2.2 ?_
    exact ⟨mL (stp d' e), stp_mL hn, stp d' e, rfl, rfl, hs, rfl, (fin_stp hn).trans hf⟩
end Lk89

namespace Lk89
open PySem PySem.Spec PyProof.Rows L2 Z
section
variable {μ : Mu} {x : Str} {i : Int} {xs : List D}
theorem bt_join : bmTy .join μ (.str x) = true := rfl
theorem f_strs : biD .str μ [.str x] = some (.str x) := rfl
theorem f_stri : biD .str μ [.int i] = ite? (decide (i.natAbs.log2 < 1920)) (.str (toString i : String)) := rfl
theorem strs_map : ∀ l : List Str, strsD (l.map .str) = some l
  | [] => rfl
  | i :: l => by
    show (strsD (l.map .str)).map _ = _
    rw [strs_map l]; rfl
theorem bd_join {ys : List Str} : bmD .join μ (.str x) [.lst (ys.map .str)] = ite? (joinOk x ys) (.str (Txt.join x ys)) := by
  show (strsD (ys.map .str)).bind _ = _
  rw [strs_map]; rfl
end
local macro_rules | `(tactic| and_intros) => `(tactic| simp only [denS, denR, denE, denEs, denT, denTs, denBop, denN, denO, denC, denW, Exs.isNil, tos_seq, tos_bindR, tos_nx, tos_rt, tos_bk, tos_ct, to_bind, to_noex, to_ok, to_some, to_ite, to_fit, to_map, to_obind, tob_nil, var_z, var_o, var_s, set_z, set_s, Option.map_some, Option.bind_some, b_add, b_sub, b_mul, b_div, b_mod, b_pow, b_adds, b_addl, b_mull, c_lt, c_le, c_gt, c_ge, c_is, c_isn, c_eq, c_ne, e_int, t_bl, t_int, t_lst, t_non, i_tup, i_lst, i_loc, at0, at1, at2, l_lst, m_lst, l_scr, f_int, f_len, f_lens, f_lent, f_sum, f_max2, f_min2, bt_bits, bd_bits, g_rng1, g_rng2, List.set_cons_zero, List.set_cons_succ, wipeR, bt_join, f_strs, f_stri, eI_some, eI_none, isNonInt, isNonN, i_eJ, isNonO, eO_some, eO_none, isNonJ, Option.isNone_some, Option.isNone_none, Bool.not_false, Bool.not_true, a_now, a_run, a_wt, a_dn, a_log, m_next, m_at, m_begun, m_fin, m_names, m_ww, m_passed, mk_day, List.map_cons, List.map_nil, List.length_cons, List.length_nil, List.replicate, List.cons_append, List.nil_append])
local macro_rules | `(tactic| trivial) => `(tactic| first | exact ⟨rfl, rfl⟩ | exact ⟨True.intro, True.intro⟩ | exact ⟨rfl, True.intro⟩ | exact ⟨True.intro, rfl⟩ | exact True.intro | rfl)
/-! ### lines of the log -/
abbrev Wo : Type := Str ⊕ Int
def eW : Wo → D
  | .inl x => .str x
  | .inr i => .int i
def sW : Wo → Str
  | .inl x => x
  | .inr i => (toString i : String)
def okW (w : Wo) : Prop := (sW w).length ≤ 12 ∧ match w with
  | .inl _ => True
  | .inr i => i.natAbs.log2 < 1920
theorem len_sum (k : Nat) : ∀ ws : List Wo, (∀ w ∈ ws, (sW w).length ≤ k) → ((ws.map sW).map (·.length)).sum ≤ k * ws.length
  | [], _ => Nat.zero_le _
  | w :: ws, h => by
    have h1 := h w (List.mem_cons_self ..)
    have h2 := len_sum k ws fun x hx => h x (List.mem_cons_of_mem _ hx)
    simp only [List.map_cons, List.sum_cons, List.length_cons, Nat.mul_add, Nat.mul_one]
    omega
theorem written_to {n : Nat} {μ : Mu} {ws : List Wo} {Q : D → Mu → Prop} (hl : ws.length ≤ 3) (hw : ∀ w ∈ ws, okW w) (hq : ∀ s : Str, s.length ≤ 60 → Q (.str s) μ) : R.To (phi G.cs (fbs G.toGi) (n + 1) 22 [.lst (ws.map eW)] μ) Q := by
  refine to_phi fb22 rfl ?_
  unfold ir22
  refine tob_cons ?_
  and_intros
  refine cmp_to eW (fun _ => true) (fun w => .str (sW w)) ws [] (fun w hm => ⟨[.val (.lst (ws.map eW)), .val (eW w)], rfl, ⟨rfl, rfl⟩, fun _ => ?_⟩) (by show 0 + ws.length ≤ 2 ^ 24; omega) ?_
  · and_intros
    cases w with
    | inl x =>
      show R.To (R.opt (biD .str μ [.str x]) μ) _
      and_intros
      trivial
    | inr i =>
      show R.To (R.opt (biD .str μ [.int i]) μ) _
      and_intros
      exact ⟨decide_eq_true (hw _ hm).2, rfl, by trivial⟩
  · rw [List.nil_append, filt_true]
    have e : (ws.map fun w => D.str (sW w)) = (ws.map sW).map .str := by rw [List.map_map]; rfl
    rw [e]
    and_intros
    rw [bd_join]
    and_intros
    have hs := len_sum 12 ws fun w hm => (hw w hm).1
    have h1 : (" " : Str).length = 1 := by decide +kernel
    have h2 : ("\n" : Str).length = 1 := by decide +kernel
    have hj : (Txt.join " " (ws.map sW)).length ≤ 39 := by
      show (Builtin.Str.glued _ _).length ≤ 39
      rw [StrLaws.glued_eq_join]
      have := StrLaws.join_length_le " " (ws.map sW)
      rw [h1, List.length_map] at this
      omega
    refine ⟨decide_eq_true (by rw [h1, List.length_map]; omega), decide_eq_true (by
      have h24 : sizeLine = 16777216 := by decide
      omega), hq _ ?_⟩
    rw [Str.length_append]
    omega
/-! ### names, waiting -/
def jobsOf (d : Dy) : List Str := d.run.filterMap (fun o => o.map (·.1)) ++ d.wt.map (·.1) ++ d.dn.map (·.1)
theorem filter_names (r : List (Option Job)) (f : Option Job → D) (h : ∀ j, f (some j) = .str j.1) : (r.filter fun o => !o.isNone).map f = (r.filterMap fun o => o.map (·.1)).map .str := by
  induction r with
  | nil => rfl
  | cons o r ih =>
    cases o with
    | none => simpa using ih
    | some j => simp [h] at ih ⊢; exact ih
theorem names_to {n : Nat} {μ : Mu} {d : Dy} {Q : D → Mu → Prop} (hd : OkD d) (hq : Q (.lst ((jobsOf d).map .str)) μ) : R.To (phi G.cs (fbs G.toGi) (n + 1) 24 [eDy d] μ) Q := by
  have h24 : sizeLine = 16777216 := by decide
  have hw := hd.wl
  refine to_phi fb24 rfl ?_
  unfold ir24
  refine tob_cons ?_
  and_intros
  refine cmp_to eO (fun o => !o.isNone) (fun o => match o with
    | some j => .str j.1
    | none => .non) d.run [] (fun o ho => ⟨[.val (eDy d), .emp, .val (eO o)], rfl, ?_, fun h => ?_⟩) (by show 0 + d.run.length ≤ sizeLine; omega) ?_
  · and_intros
    trivial
  · cases o with
    | none => cases h
    | some j =>
      and_intros
      trivial
  rw [List.nil_append, filter_names _ _ fun j => rfl]
  refine tob_cons ?_
  and_intros
  refine cmp_to eJ (fun _ => true) (fun j => .str j.1) d.wt [] (fun j hj => ⟨[.val (eDy d), .val (.lst ((d.run.filterMap fun o => o.map (·.1)).map .str)), .val (eJ j)], rfl, ⟨rfl, rfl⟩, fun _ => ?_⟩) (by show 0 + d.wt.length ≤ sizeLine; omega) ?_
  · and_intros
    trivial
  rw [List.nil_append, filt_true]
  have hr : (d.run.filterMap fun o => o.map (·.1)).length ≤ d.run.length := List.length_filterMap_le _ _
  refine ⟨decide_eq_true (by rw [List.length_map, List.length_map]; omega), ?_⟩
  refine cmp_to eJ (fun _ => true) (fun j => .str j.1) d.dn [] (fun j hj => ⟨[.val (eDy d), .val (.lst ((d.run.filterMap fun o => o.map (·.1)).map .str)), .val (eJ j)], rfl, ⟨rfl, rfl⟩, fun _ => ?_⟩) (by show 0 + d.dn.length ≤ sizeLine; omega) ?_
  · and_intros
    trivial
  rw [List.nil_append, filt_true]
  refine ⟨decide_eq_true (by rw [List.length_append, List.length_map, List.length_map, List.length_map]; omega), ?_⟩
  unfold jobsOf at hq
  rw [List.map_append, List.map_append, List.map_map, List.map_map] at hq
  exact hq
theorem ww_to {n : Nat} {μ : Mu} {d : Dy} {ws : List Wo} {w : List Job} {Q : D → Mu → Prop} (hlog : d.log.length ≤ 10000) (hl : ws.length ≤ 3) (hw : ∀ w ∈ ws, okW w) (hq : ∀ s : Str, s.length ≤ d.log.length + 60 → Q (eDy { d with wt := w, log := s }) μ) : R.To (phi G.cs (fbs G.toGi) (n + 2) 25 [eDy d, .lst (w.map eJ), .lst (ws.map eW)] μ) Q := by
  have h24 : sizeLine = 16777216 := by decide
  refine to_phi fb25 rfl ?_
  unfold ir25
  refine tob_cons ?_
  and_intros
  refine written_to hl hw fun s hs => ?_
  and_intros
  exact ⟨decide_eq_true (by omega), hq _ (by rw [Str.length_append]; omega)⟩
end Lk89

namespace Lk89
open PySem PySem.Spec PyProof.Rows L2 Z
local macro_rules | `(tactic| and_intros) => `(tactic| simp only [denS, denR, denE, denEs, denT, denTs, denBop, denN, denO, denC, denW, Exs.isNil, tos_seq, tos_bindR, tos_nx, tos_rt, tos_bk, tos_ct, to_bind, to_noex, to_ok, to_some, to_ite, to_fit, to_map, to_obind, tob_nil, var_z, var_o, var_s, set_z, set_s, Option.map_some, Option.bind_some, b_add, b_sub, b_mul, b_div, b_mod, b_pow, b_adds, b_addl, b_mull, c_lt, c_le, c_gt, c_ge, c_is, c_isn, c_eq, c_ne, e_int, t_bl, t_int, t_lst, t_non, i_tup, i_lst, i_loc, at0, at1, at2, l_lst, m_lst, l_scr, f_int, f_len, f_lens, f_lent, f_sum, f_max2, f_min2, bt_bits, bd_bits, g_rng1, g_rng2, List.set_cons_zero, List.set_cons_succ, wipeR, bt_join, f_strs, f_stri, eI_some, eI_none, isNonInt, isNonN, i_eJ, isNonO, eO_some, eO_none, isNonJ, Option.isNone_some, Option.isNone_none, Bool.not_false, Bool.not_true, a_now, a_run, a_wt, a_dn, a_log, m_next, m_at, m_begun, m_fin, m_names, m_ww, m_passed, mk_day, List.map_cons, List.map_nil, List.length_cons, List.length_nil, List.replicate, List.cons_append, List.nil_append])
local macro_rules | `(tactic| trivial) => `(tactic| first | exact ⟨rfl, rfl⟩ | exact ⟨True.intro, True.intro⟩ | exact ⟨rfl, True.intro⟩ | exact ⟨True.intro, rfl⟩ | exact True.intro | rfl)
/-! ### time passes -/
def pasN (last : Int) : Nat → Dy → Dy
  | 0, d => d
  | k + 1, d => match nextEnd d.run with
    | none => d
    | some e => if e ≤ last then pasN last k (stp d e) else d
theorem pasN_more (last : Int) : ∀ (k l : Nat) (d : Dy), mL d ≤ k → mL d ≤ l → pasN last k d = pasN last l d
  | 0, l, d, hk, hl => by
    have hz : ends d.run = [] := by
      have : (ends d.run).length = 0 := by unfold mL at hk; omega
      exact List.length_eq_zero_iff.mp this
    have hn : nextEnd d.run = none := by unfold nextEnd; rw [hz]
    cases l with
    | zero => rfl
    | succ l => unfold pasN; rw [hn]
  | k + 1, l, d, hk, hl => by
    cases hn : nextEnd d.run with
    | none =>
      cases l with
      | zero => unfold pasN; rw [hn]
      | succ l => unfold pasN; rw [hn]
    | some e =>
      have := stp_mL hn
      cases l with
      | zero => omega
      | succ l =>
        unfold pasN
        rw [hn]
        by_cases h : e ≤ last
        · simp only [h, if_true]
          exact pasN_more last k l (stp d e) (by omega) (by omega)
        · simp only [h, if_false]
def pas (last : Int) (d : Dy) : Dy := pasN last (mL d) d
theorem pas_stp {last : Int} {d : Dy} {e : Int} (h : nextEnd d.run = some e) (hl : e ≤ last) : pas last (stp d e) = pas last d := by
  have := stp_mL h
  have e1 : pas last d = pasN last (mL d - 1 + 1) d := pasN_more last _ _ d (Nat.le_refl _) (by omega)
  rw [e1]
  unfold pasN
  rw [h]
  simp only [hl, if_true]
  exact pasN_more last _ _ _ (Nat.le_refl _) (by omega)
theorem pas_end {last : Int} {d : Dy} (h : ∀ e, nextEnd d.run = some e → ¬ e ≤ last) : pas last d = d := by
  unfold pas
  cases mL d with
  | zero => rfl
  | succ k =>
    unfold pasN
    cases hn : nextEnd d.run with
    | none => rfl
    | some e => exact if_neg (h e hn)
theorem at_id {last : Int} : ∀ {r : List (Option Job)}, (∀ x ∈ ends r, ¬ x ≤ last) → (r.map fun o => if over last o then none else o) = r ∧ r.filter (over last) = []
  | [], _ => ⟨rfl, rfl⟩
  | o :: r, h => by
    have ih := at_id (last := last) (r := r) fun x hx => h x (by
      have : ends (o :: r) = ends [o] ++ ends r := ends_app [o] r
      rw [this]
      exact List.mem_append_right _ hx)
    have ho : over last o = false := by
      cases o with
      | none => rfl
      | some j => exact decide_eq_false (h j.2 (by simp [ends]))
    rw [List.map_cons, ih.1, List.filter_cons, ho, ih.2]
    exact ⟨rfl, rfl⟩
theorem no_end {last : Int} {r : List (Option Job)} (h : ∀ e, nextEnd r = some e → ¬ e ≤ last) : ∀ x ∈ ends r, ¬ x ≤ last := fun x hx hle => by
  cases hn : nextEnd r with
  | none =>
    unfold nextEnd at hn
    cases he : ends r with
    | nil => rw [he] at hx; cases hx
    | cons a l => rw [he] at hn; cases hn
  | some e =>
    have := (next_mem hn).2 x hx
    exact h e hn (by omega)
theorem pass_to {n : Nat} {μ : Mu} {d : Dy} {a : Int} {Q : D → Mu → Prop} (hd : OkD d) (hlog : d.log.length ≤ 10000) (ha : okW (.inr a)) (hq : ∀ s : Str, s.length ≤ d.log.length + 60 → Q (eDy { pas (d.now + a) d with now := d.now + a, log := s }) μ) :
    R.To (phi G.cs (fbs G.toGi) (n + 4) 29 [eDy d, .int a] μ) Q := by
  have h24 : sizeLine = 16777216 := by decide
  refine to_phi fb29 rfl ?_
  unfold ir29
  refine tob_cons ?_
  and_intros
  refine tob_cons ?_
  and_intros
  refine tob_cons ?_
  and_intros
  refine next_to hd.wl.2.2 ?_
  and_intros
  refine tob_cons ?_
  show RS.To (whlGo _ _ 1099511627776 _ _) _
  refine whl_to (fun m ρ μ' => ∃ d', ρ = [.val (eDy d), .val (.int a), .val (eDy d'), .val (.int (d.now + a)), .val (eI (nextEnd d'.run))] ∧ μ' = μ ∧ OkD d' ∧ m = mL d' ∧ pas (d.now + a) d' = pas (d.now + a) d) ?_ _ (mL d) _ _ (by have := hd.cnt; omega) ⟨d, rfl, rfl, hd, rfl, rfl⟩
  rintro m ρ μ' ⟨d', rfl, rfl, hd', rfl, hf⟩
  have fin : (∀ e, nextEnd d'.run = some e → ¬ e ≤ d.now + a) → RS.To (denB G.cs (phi G.cs (fbs G.toGi) (n + 3)) (.cons (.nam 2 (.e (.meth (.var 2) 19 (.cons (.var 3) .nil)))) (.cons (.ret (.make 1 (.cons (.var 3) (.cons (.att (.var 2) 8) (.cons (.att (.var 2) 9) (.cons (.att (.var 2) 10) (.cons (.bin .Add (.att (.var 0) 11) (.call 22 (.cons (.new (.dis (.cons (.cst (.str "pass")) (.cons (.var 1) .nil)))) .nil))) .nil))))))) .nil)) [.val (eDy d), .val (.int a), .val (eDy d'), .val (.int (d.now + a)), .val (eI (nextEnd d'.run))] μ') { nx := fun _ μ => Q .non μ, rt := Q, bk := fun _ _ => False, ct := fun _ _ => False } := fun hx => by
    have hp : pas (d.now + a) d = d' := hf.symm.trans (pas_end hx)
    obtain ⟨r1, r2⟩ := at_id (no_end hx)
    refine tob_cons ?_
    and_intros
    refine at_to hd'.wl.2.2 (by have := hd'.wl.2.1; omega) ?_
    and_intros
    refine tob_cons ?_
    and_intros
    refine ⟨by decide, ?_⟩
    refine written_to (ws := [.inl "pass", .inr a]) (by simp) (fun w hw => ?_) fun s hs => ?_
    · rcases List.mem_cons.mp hw with rfl | hw
      · exact ⟨by decide +kernel, trivial⟩
      · rcases List.mem_cons.mp hw with rfl | hw
        · exact ha
        · cases hw
    and_intros
    refine ⟨decide_eq_true (by omega), ?_⟩
    have := hq (d.log ++ s) (by rw [Str.length_append]; omega)
    rw [hp] at this
    have e : eDy { d' with now := d.now + a, log := d.log ++ s } = .obj 1 [.int (d.now + a), .lst ((atM (d.now + a) d').run.map eO), .lst ((atM (d.now + a) d').wt.map eJ), .lst ((atM (d.now + a) d').dn.map eJ), .str (d.log ++ s)] := by
      unfold eDy atM
      simp only [r1, r2, List.filterMap_nil, List.append_nil]
    rw [e] at this
    exact this
  and_intros
  cases hn : nextEnd d'.run with
  | none =>
    simp only [eI_none, isNonN]
    and_intros
    rw [hn] at fin
    exact fin fun e he => by cases he
  | some e =>
    simp only [eI_some, isNonInt]
    and_intros
    by_cases hle : e ≤ d.now + a
    · simp only [hle, decide_true]
      and_intros
      refine tob_cons ?_
      and_intros
      refine at_to hd'.wl.2.2 (by have := hd'.wl.2.1; omega) ?_
      and_intros
      have ha := hd'.at_ e
      refine begun_to ha.wl.2.2 (by have := ha.wl.1; omega) (fun j hj => ha.nw j hj) ?_
      and_intros
      have hs := hd'.stp e
      refine tob_cons ?_
      and_intros
      refine next_to hs.wl.2.2 ?_
      exact ⟨mL (stp d' e), stp_mL hn, stp d' e, rfl, rfl, hs, rfl, (pas_stp hn hle).trans hf⟩
    · simp only [hle, decide_false]
      and_intros
      rw [hn] at fin
      exact fin fun e' he => by cases he; exact hle
end Lk89

namespace Lk89
open PySem PySem.Spec PyProof.Rows L2 Z
section
variable {μ : Mu} {n : Nat} {a b c e x d : D} {Φ : Phi}
theorem asO_loc {cs : List CI} {k : Nat} {fs : List (Nat × D)} (h : μ[n]? = some (.obj k fs)) : asO cs μ (.loc n) = some (k, fs) := by
  show (match μ[n]? with
    | some (.obj c fs) => some (c, fs)
    | _ => none) = _
  rw [h]
theorem a_st (h : μ[n]? = some (.obj 2 [(12, x)])) : attD G.cs 12 μ (.loc n) = some x := by
  unfold attD
  rw [asO_loc h]; rfl
theorem a_nw (h : μ[n]? = some (.obj 0 [(4, a), (5, b), (6, c), (7, e)])) : attD G.cs 4 μ (.loc n) = some a := by
  unfold attD
  rw [asO_loc h]; rfl
theorem a_el (h : μ[n]? = some (.obj 0 [(4, a), (5, b), (6, c), (7, e)])) : attD G.cs 5 μ (.loc n) = some b := by
  unfold attD
  rw [asO_loc h]; rfl
theorem s_now (h : μ[n]? = some (.obj 0 [(4, a), (5, b), (6, c), (7, e)])) : storeD G.cs 4 d μ (.loc n) = some (μ.set n (.obj 0 [(4, d), (5, b), (6, c), (7, e)])) := by
  show (match μ[n]? with
    | some (.obj c fs) => ite? ((fldOf G.cs c).contains 4 && decide (fs.length < 1000)) (μ.set n (.obj c (Z.putF 4 d fs)))
    | _ => none) = _
  rw [h]; rfl
theorem s_later (h : μ[n]? = some (.obj 0 [(4, a), (5, b), (6, c), (7, e)])) : storeD G.cs 6 d μ (.loc n) = some (μ.set n (.obj 0 [(4, a), (5, b), (6, d), (7, e)])) := by
  show (match μ[n]? with
    | some (.obj c fs) => ite? ((fldOf G.cs c).contains 6 && decide (fs.length < 1000)) (μ.set n (.obj c (Z.putF 6 d fs)))
    | _ => none) = _
  rw [h]; rfl
theorem ms_done (h : μ[n]? = some (.obj 0 [(4, a), (5, b), (6, c), (7, e)])) : methF G.cs 10 μ (.loc n) = some 17 := by
  unfold methF
  rw [asO_loc h]; rfl
theorem mh (m f : Nat) (hm : methOf G.cs 2 m = some f) (hn : m ≠ 12) (h : μ[n]? = some (.obj 2 [(12, x)])) : methF G.cs m μ (.loc n) = some f := by
  unfold methF
  rw [asO_loc h]
  show (match methOf G.cs 2 m, lookF m [(12, x)] with
    | some f, none => some f
    | _, _ => none) = _
  rw [hm, show lookF m [(12, x)] = none from if_neg hn]
end
local macro_rules | `(tactic| and_intros) => `(tactic| simp only [denS, denR, denE, denEs, denT, denTs, denBop, denN, denO, denC, denW, Exs.isNil, tos_seq, tos_bindR, tos_nx, tos_rt, tos_bk, tos_ct, to_bind, to_noex, to_ok, to_some, to_ite, to_fit, to_map, to_obind, tob_nil, var_z, var_o, var_s, set_z, set_s, Option.map_some, Option.bind_some, b_add, b_sub, b_mul, b_div, b_mod, b_pow, b_adds, b_addl, b_mull, c_lt, c_le, c_gt, c_ge, c_is, c_isn, c_eq, c_ne, e_int, t_bl, t_int, t_lst, t_non, i_tup, i_lst, i_loc, at0, at1, at2, l_lst, m_lst, l_scr, f_int, f_len, f_lens, f_lent, f_sum, f_max2, f_min2, bt_bits, bd_bits, g_rng1, g_rng2, List.set_cons_zero, List.set_cons_succ, wipeR, bt_join, f_strs, f_stri, eI_some, eI_none, isNonInt, isNonN, i_eJ, isNonO, eO_some, eO_none, isNonJ, Option.isNone_some, Option.isNone_none, Bool.not_false, Bool.not_true, a_now, a_run, a_wt, a_dn, a_log, m_next, m_at, m_begun, m_fin, m_names, m_ww, m_passed, mk_day, List.map_cons, List.map_nil, List.length_cons, List.length_nil, List.replicate, List.cons_append, List.nil_append])
local macro_rules | `(tactic| trivial) => `(tactic| first | exact ⟨rfl, rfl⟩ | exact ⟨True.intro, True.intro⟩ | exact ⟨rfl, True.intro⟩ | exact ⟨True.intro, rfl⟩ | exact True.intro | rfl)
/-- the house at h, the generator at g: its day, how many days were kept -/
def Hs (μ : Mu) (g h : Nat) (x : List D) (d : Dy) (k : Nat) : Prop := ∃ (st el : Nat) (b c : D) (xs : List D), μ[g]? = some (.lst x) ∧ μ[h]? = some (.obj 2 [(12, .loc st)]) ∧ μ[st]? = some (.obj 0 [(4, eDy d), (5, .loc el), (6, b), (7, c)]) ∧ μ[el]? = some (.lst xs) ∧ xs.length ≤ k ∧ g ≠ el
theorem Hs.gen {μ : Mu} {g h : Nat} {x y : List D} {d : Dy} {k : Nat} (H : Hs μ g h x d k) : Hs (μ.set g (.lst y)) g h y d k := by
  obtain ⟨st, el, b, c, xs, h1, h2, h3, h4, h5, h6⟩ := H
  have n1 : g ≠ h := fun z => by rw [z, h2] at h1; cases h1
  have n2 : g ≠ st := fun z => by rw [z, h3] at h1; cases h1
  exact ⟨st, el, b, c, xs, List.getElem?_set_self (List.getElem?_eq_some_iff.mp h1).1, by rw [List.getElem?_set_ne n1]; exact h2, by rw [List.getElem?_set_ne n2]; exact h3, by rw [List.getElem?_set_ne h6]; exact h4, h5, h6⟩
theorem Hs.get {μ : Mu} {g h : Nat} {x : List D} {d : Dy} {k : Nat} (H : Hs μ g h x d k) : μ[g]? = some (.lst x) := by
  obtain ⟨_, _, _, _, _, h1, _⟩ := H
  exact h1
theorem keep_to {n g h st el k : Nat} {μ : Mu} {x xs : List D} {d d' : Dy} {b c : D} {Q : D → Mu → Prop} (h1 : μ[g]? = some (.lst x)) (h2 : μ[h]? = some (.obj 2 [(12, .loc st)])) (h3 : μ[st]? = some (.obj 0 [(4, eDy d), (5, .loc el), (6, b), (7, c)])) (h4 : μ[el]? = some (.lst xs)) (h5 : xs.length ≤ k) (h6 : g ≠ el) (hk : k < 1000000)
    (hq : ∀ μ', Hs μ' g h x d' (k + 1) → Q .non μ') : R.To (phi G.cs (fbs G.toGi) (n + 1) 17 [.loc st, eDy d'] μ) Q := by
  have n1 : el ≠ st := fun z => by rw [z, h3] at h4; cases h4
  have n2 : el ≠ h := fun z => by rw [z, h2] at h4; cases h4
  have n3 : st ≠ g := fun z => by rw [z, h1] at h3; cases h3
  have n4 : st ≠ h := fun z => by rw [z, h2] at h3; cases h3
  have e3 : (μ.set el (.lst (xs ++ [eDy d])))[st]? = some (.obj 0 [(4, eDy d), (5, .loc el), (6, b), (7, c)]) := by rw [List.getElem?_set_ne n1]; exact h3
  refine to_phi fb17 rfl ?_
  unfold ir17
  refine tob_cons ?_
  and_intros
  refine chg_ref ?_
  and_intros
  rw [a_el h3]
  and_intros
  refine ⟨el, xs, rfl, h4, ?_⟩
  rw [a_nw h3]
  and_intros
  have hlt : decide (xs.length < sizeLine) = true := decide_eq_true (by
    have h24 : sizeLine = 16777216 := by decide
    omega)
  refine ⟨xs, xs ++ [eDy d], .non, h4, by unfold appK; rw [hlt]; rfl, rfl, ?_⟩
  refine tob_cons ?_
  and_intros
  refine ⟨by decide, ?_⟩
  rw [s_later e3]
  and_intros
  refine tob_cons ?_
  and_intros
  have e4 : ((μ.set el (.lst (xs ++ [eDy d]))).set st (.obj 0 [(4, eDy d), (5, .loc el), (6, .lst []), (7, c)]))[st]? = some (.obj 0 [(4, eDy d), (5, .loc el), (6, .lst []), (7, c)]) := List.getElem?_set_self (by rw [List.length_set]; exact (List.getElem?_eq_some_iff.mp h3).1)
  rw [s_now e4]
  and_intros
  rw [List.set_set]
  refine hq _ ⟨st, el, .lst [], c, xs ++ [eDy d], ?_, ?_, ?_, ?_, ?_, h6⟩
  · rw [List.getElem?_set_ne n3, List.getElem?_set_ne h6.symm]; exact h1
  · rw [List.getElem?_set_ne n4, List.getElem?_set_ne n2]; exact h2
  · exact List.getElem?_set_self (by rw [List.length_set]; exact (List.getElem?_eq_some_iff.mp h3).1)
  · rw [List.getElem?_set_ne n1.symm]; exact List.getElem?_set_self (List.getElem?_eq_some_iff.mp h4).1
  · rw [List.length_append, List.length_singleton]; omega
end Lk89

namespace Lk89
open PySem PySem.Spec PyProof.Rows L2 Z
section
variable {μ : Mu} {i : Int} {x : Str}
theorem f_isi1 : biD (.isi .int) μ [.int i] = some (.bl true) := rfl
theorem f_isi2 : biD (.isi .bool) μ [.int i] = some (.bl false) := rfl
theorem f_isi3 : biD (.isi .str) μ [.str x] = some (.bl true) := rfl
theorem f_isi4 : biD (.isi .str) μ [.int i] = some (.bl false) := rfl
end
local macro_rules | `(tactic| and_intros) => `(tactic| simp only [denS, denR, denE, denEs, denT, denTs, denBop, denN, denO, denC, denW, Exs.isNil, tos_seq, tos_bindR, tos_nx, tos_rt, tos_bk, tos_ct, to_bind, to_noex, to_ok, to_some, to_ite, to_fit, to_map, to_obind, tob_nil, var_z, var_o, var_s, set_z, set_s, Option.map_some, Option.bind_some, b_add, b_sub, b_mul, b_div, b_mod, b_pow, b_adds, b_addl, b_mull, c_lt, c_le, c_gt, c_ge, c_is, c_isn, c_eq, c_ne, e_int, t_bl, t_int, t_lst, t_non, i_tup, i_lst, i_loc, at0, at1, at2, l_lst, m_lst, l_scr, f_int, f_len, f_lens, f_lent, f_sum, f_max2, f_min2, bt_bits, bd_bits, g_rng1, g_rng2, List.set_cons_zero, List.set_cons_succ, wipeR, f_isi1, f_isi2, f_isi3, f_isi4, bt_join, f_strs, f_stri, eI_some, eI_none, isNonInt, isNonN, i_eJ, isNonO, eO_some, eO_none, isNonJ, Option.isNone_some, Option.isNone_none, Bool.not_false, Bool.not_true, a_now, a_run, a_wt, a_dn, a_log, m_next, m_at, m_begun, m_fin, m_names, m_ww, m_passed, mk_day, List.map_cons, List.map_nil, List.length_cons, List.length_nil, List.replicate, List.cons_append, List.nil_append])
local macro_rules | `(tactic| trivial) => `(tactic| first | exact ⟨rfl, rfl⟩ | exact ⟨True.intro, True.intro⟩ | exact ⟨rfl, True.intro⟩ | exact ⟨True.intro, rfl⟩ | exact True.intro | rfl)
section
variable {μ : Mu} {n g h k : Nat} {x : List D} {d : Dy} {Q : D → Mu → Prop} {i j : Int}
theorem whole_to (hq : Q (.bl true) μ) : R.To (phi G.cs (fbs G.toGi) (n + 1) 0 [.int i] μ) Q := by
  refine to_phi fb0 rfl ?_
  unfold ir0
  refine tob_cons ?_
  and_intros
  exact hq
theorem count_to (hq : Q (.bl (decide (0 ≤ i))) μ) : R.To (phi G.cs (fbs G.toGi) (n + 2) 1 [.int i] μ) Q := by
  refine to_phi fb1 rfl ?_
  unfold ir1
  refine tob_cons ?_
  and_intros
  refine whole_to ?_
  and_intros
  exact hq
theorem below_to (h0 : 0 ≤ i) (hq : Q (.bl (decide (i < j))) μ) : R.To (phi G.cs (fbs G.toGi) (n + 3) 2 [.int i, .int j] μ) Q := by
  refine to_phi fb2 rfl ?_
  unfold ir2
  refine tob_cons ?_
  and_intros
  refine count_to ?_
  rw [decide_eq_true h0]
  and_intros
  exact hq
theorem machs_to (h1 : 1 ≤ i) (h2 : i ≤ 8) (hq : Q (.bl true) μ) : R.To (phi G.cs (fbs G.toGi) (n + 2) 11 [.int i] μ) Q := by
  refine to_phi fb11 rfl ?_
  unfold ir11
  refine tob_cons ?_
  and_intros
  refine whole_to ?_
  and_intros
  simp only [h1, decide_true]
  and_intros
  simp only [h2, decide_true]
  exact hq
theorem time_to (h1 : 1 ≤ i) (h2 : i ≤ 1000) (hq : Q (.bl true) μ) : R.To (phi G.cs (fbs G.toGi) (n + 2) 21 [.int i] μ) Q := by
  refine to_phi fb21 rfl ?_
  unfold ir21
  refine tob_cons ?_
  and_intros
  refine whole_to ?_
  and_intros
  simp only [h1, decide_true]
  and_intros
  simp only [h2, decide_true]
  exact hq
theorem moment_to (H : Hs μ g h x d k) (hq : Q (.int d.now) μ) : R.To (phi G.cs (fbs G.toGi) (n + 1) 33 [.loc h] μ) Q := by
  obtain ⟨st, el, b, c, xs, h1, h2, h3, h4, h5, h6⟩ := H
  refine to_phi fb33 rfl ?_
  unfold ir33
  refine tob_cons ?_
  and_intros
  simp only [a_st h2]
  and_intros
  simp only [a_nw h3]
  and_intros
  exact hq
theorem running_to (H : Hs μ g h x d k) (hq : Q (.lst (d.run.map eO)) μ) : R.To (phi G.cs (fbs G.toGi) (n + 1) 34 [.loc h] μ) Q := by
  obtain ⟨st, el, b, c, xs, h1, h2, h3, h4, h5, h6⟩ := H
  refine to_phi fb34 rfl ?_
  unfold ir34
  refine tob_cons ?_
  and_intros
  simp only [a_st h2]
  and_intros
  simp only [a_nw h3]
  and_intros
  exact hq
theorem waiting_to (H : Hs μ g h x d k) (hq : Q (.lst (d.wt.map eJ)) μ) : R.To (phi G.cs (fbs G.toGi) (n + 1) 35 [.loc h] μ) Q := by
  obtain ⟨st, el, b, c, xs, h1, h2, h3, h4, h5, h6⟩ := H
  refine to_phi fb35 rfl ?_
  unfold ir35
  refine tob_cons ?_
  and_intros
  simp only [a_st h2]
  and_intros
  simp only [a_nw h3]
  and_intros
  exact hq
theorem hdone_to (H : Hs μ g h x d k) (hq : Q (.lst (d.dn.map eJ)) μ) : R.To (phi G.cs (fbs G.toGi) (n + 1) 36 [.loc h] μ) Q := by
  obtain ⟨st, el, b, c, xs, h1, h2, h3, h4, h5, h6⟩ := H
  refine to_phi fb36 rfl ?_
  unfold ir36
  refine tob_cons ?_
  and_intros
  simp only [a_st h2]
  and_intros
  simp only [a_nw h3]
  and_intros
  exact hq
theorem finN_pre : ∀ (k : Nat) (d : Dy), ∃ more, (finN k d).dn = d.dn ++ more
  | 0, d => ⟨[], by simp [finN]⟩
  | k + 1, d => by
    unfold finN
    cases hn : nextEnd d.run with
    | none => exact ⟨[], by simp⟩
    | some e =>
      obtain ⟨more, hm⟩ := finN_pre k (stp d e)
      exact ⟨(d.run.filter (over e)).filterMap id ++ more, by rw [hm, ← List.append_assoc]; rfl⟩
theorem fin_pre (d : Dy) : ∃ more, (fin d).dn = d.dn ++ more := finN_pre _ d
def shown (d : Dy) : List Job := (fin d).dn.drop d.dn.length
theorem shown_eq (d : Dy) : d.dn ++ shown d = (fin d).dn := by
  obtain ⟨more, hm⟩ := fin_pre d
  unfold shown
  rw [hm, List.drop_append_of_le_length (Nat.le_refl _), List.drop_length, List.nil_append]
theorem forecast_to (hd : OkD d) (H : Hs μ g h x d k) (hq : Q (.lst ((shown d).map eJ)) μ) : R.To (phi G.cs (fbs G.toGi) (n + 4) 37 [.loc h] μ) Q := by
  obtain ⟨st, el, b, c, xs, h1, h2, h3, h4, h5, h6⟩ := H
  refine to_phi fb37 rfl ?_
  unfold ir37
  refine tob_cons ?_
  and_intros
  simp only [a_st h2]
  and_intros
  simp only [a_nw h3]
  and_intros
  refine tob_cons ?_
  and_intros
  refine fin_to hd ?_
  and_intros
  rw [List.length_map]
  show R.To (R.opt (some (D.lst (Z.cutD ((fin d).dn.map eJ) (some (d.dn.length : Nat)) none))) μ) _
  obtain ⟨more, hm⟩ := fin_pre d
  rw [cut_map, cut_suf (by rw [hm, List.length_append]; omega)]
  exact hq
def sumT (l : List Job) : Int := (l.map (·.2)).sum
theorem sum_to (hd : OkD d) (H : Hs μ g h x d k) (hl : (fin d).dn.length ≤ 1000) (hq : Q (.int (sumT (fin d).dn)) μ) : R.To (phi G.cs (fbs G.toGi) (n + 4) 38 [.loc h] μ) Q := by
  obtain ⟨st, el, b, c, xs, h1, h2, h3, h4, h5, h6⟩ := H
  refine to_phi fb38 rfl ?_
  unfold ir38
  refine tob_cons ?_
  and_intros
  simp only [a_st h2]
  and_intros
  simp only [a_nw h3]
  and_intros
  refine fin_to hd ?_
  and_intros
  refine cmp_to eJ (fun _ => true) (fun j => .int j.2) (fin d).dn [] (fun j hj => ⟨[.val (.loc h), .val (eJ j)], rfl, ⟨rfl, rfl⟩, fun _ => ?_⟩) (by show 0 + (fin d).dn.length ≤ 2 ^ 24; omega) ?_
  · and_intros
    trivial
  rw [List.nil_append, filt_true]
  and_intros
  have e : ((fin d).dn.map fun j => D.int j.2) = ((fin d).dn.map (·.2)).map .int := by rw [List.map_map]; rfl
  rw [e, Z.ints_map]
  exact hq
end
end Lk89

namespace Lk89
open PySem PySem.Spec PyProof.Rows L2 Z
def letters : Str := "abcdefghijklmnopqrstuvwxyz"
section
variable {μ : Mu} {c : Nat} {x z : Str}
theorem c_nins : cmpD .NotIn μ (.str ⟨#[c]⟩) (.str z) = some (!decide (c ∈ z.cps.toList)) := rfl
theorem sg_str : signD (.str x) = some (x.cps.toList.map fun c => .str ⟨#[c]⟩) := rfl
end
local macro_rules | `(tactic| and_intros) => `(tactic| simp only [denS, denR, denE, denEs, denT, denTs, denBop, denN, denO, denC, denW, Exs.isNil, tos_seq, tos_bindR, tos_nx, tos_rt, tos_bk, tos_ct, to_bind, to_noex, to_ok, to_some, to_ite, to_fit, to_map, to_obind, tob_nil, var_z, var_o, var_s, set_z, set_s, Option.map_some, Option.bind_some, b_add, b_sub, b_mul, b_div, b_mod, b_pow, b_adds, b_addl, b_mull, c_lt, c_le, c_gt, c_ge, c_is, c_isn, c_eq, c_ne, e_int, t_bl, t_int, t_lst, t_non, i_tup, i_lst, i_loc, at0, at1, at2, l_lst, m_lst, l_scr, f_int, f_len, f_lens, f_lent, f_sum, f_max2, f_min2, bt_bits, bd_bits, g_rng1, g_rng2, List.set_cons_zero, List.set_cons_succ, wipeR, c_nins, sg_str, f_isi1, f_isi2, f_isi3, f_isi4, bt_join, f_strs, f_stri, eI_some, eI_none, isNonInt, isNonN, i_eJ, isNonO, eO_some, eO_none, isNonJ, Option.isNone_some, Option.isNone_none, Bool.not_false, Bool.not_true, a_now, a_run, a_wt, a_dn, a_log, m_next, m_at, m_begun, m_fin, m_names, m_ww, m_passed, mk_day, List.map_cons, List.map_nil, List.length_cons, List.length_nil, List.replicate, List.cons_append, List.nil_append])
local macro_rules | `(tactic| trivial) => `(tactic| first | exact ⟨rfl, rfl⟩ | exact ⟨True.intro, True.intro⟩ | exact ⟨rfl, True.intro⟩ | exact ⟨True.intro, rfl⟩ | exact True.intro | rfl)
structure NmOk (x : Str) : Prop where
  l1 : 1 ≤ x.length
  l2 : x.length ≤ 12
  lt : ∀ c ∈ x.cps.toList, c ∈ letters.cps.toList
  ok : nmOk x
section
variable {μ : Mu} {n g h k : Nat} {x : List D} {d : Dy} {Q : D → Mu → Prop} {i j : Int}
theorem jname_to {nm : Str} (hn : NmOk nm) (hq : Q (.bl true) μ) : R.To (phi G.cs (fbs G.toGi) (n + 1) 20 [.str nm] μ) Q := by
  have h1 := hn.l1
  have h2 := hn.l2
  refine to_phi fb20 rfl ?_
  unfold ir20
  refine tob_cons ?_
  and_intros
  refine ⟨decide_eq_true (by
    have h24 : sizeLine = 16777216 := by decide
    omega), ?_⟩
  rw [decide_eq_true (show (1 : Int) ≤ (nm.length : Nat) by omega)]
  and_intros
  rw [decide_eq_true (show ((nm.length : Nat) : Int) ≤ 12 by omega)]
  and_intros
  refine tob_cons ?_
  and_intros
  refine cmp_to (fun c => D.str ⟨#[c]⟩) (fun c => !decide (c ∈ letters.cps.toList)) (fun c => D.str ⟨#[c]⟩) nm.cps.toList [] (fun c hc => ⟨[.val (.str nm), .val (.str ⟨#[c]⟩)], rfl, ?_, fun _ => ?_⟩) (by
    have h24 : sizeLine = 16777216 := by decide
    have : nm.cps.toList.length = nm.length := Array.length_toList
    show 0 + nm.cps.toList.length ≤ sizeLine
    omega) ?_
  · and_intros
    trivial
  · and_intros
    trivial
  · have e : nm.cps.toList.filter (fun c => !decide (c ∈ letters.cps.toList)) = [] := List.filter_eq_nil_iff.mpr fun c hc => by
      rw [decide_eq_true (hn.lt c hc)]; simp
    rw [e]
    refine ⟨by decide, ?_⟩
    rw [List.map_nil, List.append_nil, eq_nil fun y hy => absurd hy (by simp)]
    exact hq
theorem wait_to {a : Int} (hd : OkD d) (H : Hs μ g h x d k) (hk : k < 1000000) (ha : 1 ≤ a) (ha2 : a ≤ 1000) (hw : okW (.inr a)) (hlog : d.log.length ≤ 10000)
    (hq : ∀ μ' s, s.length ≤ d.log.length + 60 → Hs μ' g h x { pas (d.now + a) d with now := d.now + a, log := s } (k + 1) → Q .non μ') : R.To (phi G.cs (fbs G.toGi) (n + 6) 41 [.loc h, .int a] μ) Q := by
  obtain ⟨st, el, b, c, xs, h1, h2, h3, h4, h5, h6⟩ := H
  refine to_phi fb41 rfl ?_
  unfold ir41
  refine tob_cons ?_
  and_intros
  refine below_to (by omega) ?_
  rw [decide_eq_true (show a < 100001 by omega)]
  and_intros
  rw [decide_eq_false (show ¬ a = 0 by omega)]
  and_intros
  refine tob_cons ?_
  and_intros
  simp only [a_st h2]
  and_intros
  simp only [ms_done h3]
  and_intros
  simp only [a_st h2]
  and_intros
  simp only [a_nw h3]
  and_intros
  refine pass_to hd hlog hw fun s hs => ?_
  and_intros
  refine keep_to h1 h2 h3 h4 h5 h6 hk fun μ' H' => ?_
  and_intros
  exact hq μ' s hs H'
theorem OkD.add {nm : Str} {t : Int} {s : Str} (hd : OkD d) (hn : nmOk nm) (hc : mL d + d.dn.length + 1 ≤ 100) : OkD { d with wt := d.wt ++ [(nm, t)], log := s } := by
  refine ⟨hd.rl, ?_, fun j hj => ?_, hd.nd, hd.nr⟩
  · show (ends d.run).length + (d.wt ++ [(nm, t)]).length + d.dn.length ≤ 100
    rw [List.length_append, List.length_singleton]
    unfold mL at hc
    omega
  · rcases List.mem_append.mp hj with hj | hj
    · exact hd.nw j hj
    · have e : j = (nm, t) := by simpa using hj
      rw [e]; exact hn
theorem jobs_ok (hd : OkD d) : ∀ y ∈ jobsOf d, nmOk y := fun y hy => by
  unfold jobsOf at hy
  rcases List.mem_append.mp hy with hy | hy
  · rcases List.mem_append.mp hy with hy | hy
    · obtain ⟨o, ho, e⟩ := List.mem_filterMap.mp hy
      cases o with
      | none => cases e
      | some j =>
        have e' : j.1 = y := Option.some.inj e
        rw [← e']; exact hd.nr j ho
    · obtain ⟨j, hj, rfl⟩ := List.mem_map.mp hy
      exact hd.nw j hj
  · obtain ⟨j, hj, rfl⟩ := List.mem_map.mp hy
    exact hd.nd j hj
theorem come_to {nm : Str} {t : Int} (hd : OkD d) (H : Hs μ g h x d k) (hk : k < 1000000) (hn : NmOk nm) (hnew : nm ∉ jobsOf d) (h60 : (jobsOf d).length < 60) (hc : mL d + d.dn.length + 1 ≤ 100) (t1 : 1 ≤ t) (t2 : t ≤ 1000) (hw : okW (.inr t)) (hlog : d.log.length ≤ 10000)
    (hq : ∀ μ' s, s.length ≤ d.log.length + 60 → Hs μ' g h x (begD { d with wt := d.wt ++ [(nm, t)], log := s }) (k + 1) → Q .non μ') : R.To (phi G.cs (fbs G.toGi) (n + 6) 40 [.loc h, .str nm, .int t] μ) Q := by
  have hwl := hd.wl
  have h24 : sizeLine = 16777216 := by decide
  obtain ⟨st, el, b, c, xs, h1, h2, h3, h4, h5, h6⟩ := H
  refine to_phi fb40 rfl ?_
  unfold ir40
  refine tob_cons ?_
  and_intros
  simp only [a_st h2]
  and_intros
  simp only [a_nw h3]
  and_intros
  refine tob_cons ?_
  and_intros
  refine jname_to hn ?_
  and_intros
  refine names_to hd ?_
  and_intros
  rw [in_of enc_str (by omega) hn.ok (jobs_ok hd), decide_eq_false hnew]
  and_intros
  refine tob_cons ?_
  and_intros
  refine time_to t1 t2 ?_
  and_intros
  refine tob_cons ?_
  and_intros
  refine names_to hd ?_
  and_intros
  rw [List.length_map, decide_eq_false (show ¬ ((jobsOf d).length : Int) = 60 by omega)]
  and_intros
  refine tob_cons ?_
  and_intros
  simp only [a_st h2]
  and_intros
  simp only [ms_done h3]
  and_intros
  refine ⟨by decide, by decide, decide_eq_true (by rw [List.length_map]; omega), by decide, ?_⟩
  have ew : d.wt.map eJ ++ [D.tup [.str nm, .int t]] = (d.wt ++ [(nm, t)]).map eJ := by rw [List.map_append]; rfl
  rw [ew]
  refine ww_to (ws := [.inl "come", .inl nm, .inr t]) hlog (by simp) (fun w hm => ?_) fun s hs => ?_
  · rcases List.mem_cons.mp hm with rfl | hm
    · exact ⟨by decide +kernel, True.intro⟩
    · rcases List.mem_cons.mp hm with rfl | hm
      · exact ⟨hn.l2, True.intro⟩
      · rcases List.mem_cons.mp hm with rfl | hm
        · exact hw
        · cases hm
  have hd' : OkD { d with wt := d.wt ++ [(nm, t)], log := s } := hd.add hn.ok hc
  and_intros
  refine begun_to hd'.wl.2.2 (by have := hd'.wl.1; omega) (fun j hj => hd'.nw j hj) ?_
  and_intros
  refine keep_to h1 h2 h3 h4 h5 h6 hk fun μ' H' => ?_
  and_intros
  exact hq μ' s hs H'
end
end Lk89

namespace Lk89
open PySem PySem.Spec PyProof.Rows L2 Z
local macro_rules | `(tactic| and_intros) => `(tactic| simp only [denS, denR, denE, denEs, denT, denTs, denBop, denN, denO, denC, denW, Exs.isNil, tos_seq, tos_bindR, tos_nx, tos_rt, tos_bk, tos_ct, to_bind, to_noex, to_ok, to_some, to_ite, to_fit, to_map, to_obind, tob_nil, var_z, var_o, var_s, set_z, set_s, Option.map_some, Option.bind_some, b_add, b_sub, b_mul, b_div, b_mod, b_pow, b_adds, b_addl, b_mull, c_lt, c_le, c_gt, c_ge, c_is, c_isn, c_eq, c_ne, e_int, t_bl, t_int, t_lst, t_non, i_tup, i_lst, i_loc, at0, at1, at2, l_lst, m_lst, l_scr, f_int, f_len, f_lens, f_lent, f_sum, f_max2, f_min2, bt_bits, bd_bits, g_rng1, g_rng2, List.set_cons_zero, List.set_cons_succ, wipeR, c_nins, sg_str, f_isi1, f_isi2, f_isi3, f_isi4, bt_join, f_strs, f_stri, eI_some, eI_none, isNonInt, isNonN, i_eJ, isNonO, eO_some, eO_none, isNonJ, Option.isNone_some, Option.isNone_none, Bool.not_false, Bool.not_true, a_now, a_run, a_wt, a_dn, a_log, m_next, m_at, m_begun, m_fin, m_names, m_ww, m_passed, mk_day, List.map_cons, List.map_nil, List.length_cons, List.length_nil, List.replicate, List.cons_append, List.nil_append])
local macro_rules | `(tactic| trivial) => `(tactic| first | exact ⟨rfl, rfl⟩ | exact ⟨True.intro, True.intro⟩ | exact ⟨rfl, True.intro⟩ | exact ⟨True.intro, rfl⟩ | exact True.intro | rfl)
section
variable {μ : Mu} {n g : Nat} {x : List D} {Q : D → Mu → Prop}
theorem s_gen {st f : Nat} {d : D} {fs : List (Nat × D)} {c : Nat} (h : μ[st]? = some (.obj c fs)) (hf : (fldOf G.cs c).contains f = true) (hl : fs.length < 1000) : storeD G.cs f d μ (.loc st) = some (μ.set st (.obj c (Z.putF f d fs))) := by
  show (match μ[st]? with
    | some (.obj c fs) => ite? ((fldOf G.cs c).contains f && decide (fs.length < 1000)) (μ.set st (.obj c (Z.putF f d fs)))
    | _ => none) = _
  rw [h]
  show ite? ((fldOf G.cs c).contains f && decide (fs.length < 1000)) _ = _
  rw [hf, decide_eq_true hl]
  rfl
theorem steps_to {st : Nat} {a : D} (h : μ[st]? = some (.obj 0 [])) (hq : ∀ μ' el b c, μ'[st]? = some (.obj 0 [(4, a), (5, .loc el), (6, b), (7, c)]) → μ'[el]? = some (.lst []) → μ.length ≤ el → (∀ i cl, i ≠ st → μ[i]? = some cl → μ'[i]? = some cl) → Q .non μ') : R.To (phi G.cs (fbs G.toGi) (n + 1) 16 [.loc st, a] μ) Q := by
  have hl : st < μ.length := (List.getElem?_eq_some_iff.mp h).1
  refine to_phi fb16 rfl ?_
  unfold ir16
  refine tob_cons ?_
  and_intros
  rw [s_gen h (by decide +kernel) (by simp)]
  and_intros
  refine tob_cons ?_
  and_intros
  refine ⟨by decide, ?_⟩
  have e1 : (μ.set st (.obj 0 (Z.putF 4 a [])) ++ [Cell.lst []])[st]? = some (.obj 0 [(4, a)]) := by
    rw [List.getElem?_append_left (by rw [List.length_set]; exact hl), List.getElem?_set_self hl]; rfl
  rw [List.length_set, s_gen e1 (by decide +kernel) (by simp)]
  and_intros
  refine tob_cons ?_
  and_intros
  refine ⟨by decide, ?_⟩
  generalize hm1 : (μ.set st (.obj 0 (Z.putF 4 a [])) ++ [Cell.lst []]).set st (.obj 0 (Z.putF 5 (.loc μ.length) [(4, a)])) = μ1
  have l1 : μ1.length = μ.length + 1 := by rw [← hm1, List.length_set, List.length_append, List.length_set]; rfl
  have e2 : μ1[st]? = some (.obj 0 [(4, a), (5, .loc μ.length)]) := by
    rw [← hm1, List.getElem?_set_self (by rw [List.length_append, List.length_set]; omega)]; rfl
  have k1 : ∀ i cl, i ≠ st → μ[i]? = some cl → μ1[i]? = some cl := fun i cl hi e => by
    have := (List.getElem?_eq_some_iff.mp e).1
    rw [← hm1, List.getElem?_set_ne hi.symm, List.getElem?_append_left (by rw [List.length_set]; exact this), List.getElem?_set_ne hi.symm]
    exact e
  have k2 : μ1[μ.length]? = some (.lst []) := by
    rw [← hm1, List.getElem?_set_ne (by omega), List.getElem?_append_right (by rw [List.length_set]; exact Nat.le_refl _), List.length_set, Nat.sub_self]; rfl
  rw [s_gen e2 (by decide +kernel) (by simp)]
  and_intros
  refine tob_cons ?_
  and_intros
  refine ⟨by decide, ?_⟩
  have e3 : (μ1.set st (.obj 0 (Z.putF 6 (.lst []) [(4, a), (5, .loc μ.length)])) ++ [Cell.lst []])[st]? = some (.obj 0 [(4, a), (5, .loc μ.length), (6, .lst [])]) := by
    rw [List.getElem?_append_left (by rw [List.length_set]; omega), List.getElem?_set_self (by omega)]; rfl
  rw [List.length_set, s_gen e3 (by decide +kernel) (by simp)]
  and_intros
  refine hq _ μ.length (.lst []) (.loc μ1.length) ?_ ?_ (Nat.le_refl _) fun i cl hi e => ?_
  · rw [List.getElem?_set_self (by rw [List.length_append, List.length_set]; omega)]; rfl
  · rw [List.getElem?_set_ne (by omega), List.getElem?_append_left (by rw [List.length_set]; omega), List.getElem?_set_ne (by omega)]
    exact k2
  · have := (List.getElem?_eq_some_iff.mp e).1
    rw [List.getElem?_set_ne hi.symm, List.getElem?_append_left (by rw [List.length_set]; omega), List.getElem?_set_ne hi.symm]
    exact k1 i cl hi e
def day0 (m : Nat) : Dy := ⟨0, List.replicate m none, [], [], ""⟩
theorem rep_non (m : Nat) : (List.replicate m [D.non]).flatten = (List.replicate m (none : Option Job)).map eO := by
  induction m with
  | zero => rfl
  | succ m ih => rw [List.replicate_succ, List.flatten_cons, ih, List.replicate_succ, List.map_cons]; rfl
theorem mk_cell {cs : List CI} {Φ : Phi} {c : Nat} {ci : CI} {ds : List D} (h : cs[c]? = some ci) (hf : ci.frz = false) (hq : R.To (Φ ci.ini (.loc μ.length :: ds) (μ ++ [.obj c []])) fun d μ' => d = .non ∧ Q (.loc μ.length) μ') : R.To (makeD cs Φ c ds μ) Q := by
  unfold makeD
  rw [h]
  simp only [hf]
  rw [to_bind]
  refine R.To.mono hq fun d μ' ⟨e, q⟩ => ?_
  rw [e]
  exact q
theorem cs0 : G.cs[0]? = some ⟨0, 16, [(10, 17), (29, 18), (30, 19)], [4, 5, 6, 7], false⟩ := rfl
end
end Lk89

namespace Lk89
/-! ### all ways to put jobs on machines: plain -/
inductive Ach : List Int → List Int → Int → Prop where
  | nil (F : List Int) : Ach F [] 0
  | cons {F F' T T' : List Int} {f t v : Int} (hF : F.Perm (f :: F')) (hT : T.Perm (t :: T')) (h : Ach ((f + t) :: F') T' v) : Ach F T (f + t + v)
theorem Ach.perm {F T F2 T2 : List Int} {v : Int} (h : Ach F T v) (hF : F.Perm F2) (hT : T.Perm T2) : Ach F2 T2 v := by
  cases h with
  | nil =>
    have : T2 = [] := hT.symm.eq_nil
    subst this
    exact .nil _
  | cons h1 h2 h3 => exact .cons (hF.symm.trans h1) (hT.symm.trans h2) h3
theorem perm_pick {α : Type} [BEq α] [LawfulBEq α] {x y : α} {xs ys : List α} (h : (x :: xs).Perm (y :: ys)) : (x = y ∧ xs.Perm ys) ∨ ∃ zs, xs.Perm (y :: zs) ∧ ys.Perm (x :: zs) := by
  have hm : y ∈ x :: xs := h.symm.subset (List.mem_cons_self ..)
  by_cases e : y = x
  · subst e
    exact .inl ⟨rfl, h.cons_inv⟩
  · have hm' : y ∈ xs := by
      rcases List.mem_cons.mp hm with z | z
      · exact absurd z e
      · exact z
    refine .inr ⟨xs.erase y, List.perm_cons_erase hm', ?_⟩
    have h2 : (y :: x :: xs.erase y).Perm (y :: ys) := ((List.Perm.swap x y _).trans ((List.perm_cons_erase hm').symm.cons x)).trans h
    exact h2.cons_inv.symm
/-- what a way costs hangs linearly on when two machines are free -/
theorem Ach.lin {F T : List Int} {v : Int} (h : Ach F T v) : ∀ {b c : Int} {F0 : List Int}, F.Perm (b :: c :: F0) → ∃ kb kc w : Int, v = kb * b + kc * c + w ∧ ∀ x y : Int, Ach (x :: y :: F0) T (kb * x + kc * y + w) := by
  induction h with
  | nil F =>
    intro b c F0 _
    exact ⟨0, 0, 0, by omega, fun x y => by simpa using Ach.nil (x :: y :: F0)⟩
  | @cons F F' T T' f t v hF hT h ih =>
    intro b c F0 hp
    rcases perm_pick (hF.symm.trans hp) with ⟨rfl, hp'⟩ | ⟨zs, hz1, hz2⟩
    · obtain ⟨kb, kc, w, e, q⟩ := ih (hp'.cons (f + t))
      refine ⟨kb + 1, kc, w + t + kb * t, by rw [e, Int.mul_add, Int.add_mul]; omega, fun x y => ?_⟩
      have := Ach.cons (List.Perm.refl (x :: y :: F0)) hT (q (x + t) y)
      have e2 : (kb + 1) * x + kc * y + (w + t + kb * t) = x + t + (kb * (x + t) + kc * y + w) := by rw [Int.mul_add, Int.add_mul]; omega
      rw [e2]; exact this
    · rcases perm_pick hz2 with ⟨rfl, hp'⟩ | ⟨ws, hw1, hw2⟩
      · -- f = c
        have h1 : (((c + t) :: F').Perm (b :: (c + t) :: F0)) := ((hz1.trans (hp'.symm.cons b)).cons (c + t)).trans (List.Perm.swap ..)
        obtain ⟨kb, kc, w, e, q⟩ := ih h1
        refine ⟨kb, kc + 1, w + t + kc * t, by rw [e, Int.mul_add, Int.add_mul]; omega, fun x y => ?_⟩
        have := Ach.cons (List.Perm.swap y x F0) hT ((q x (y + t)).perm (List.Perm.swap ..) (.refl _))
        have e2 : kb * x + (kc + 1) * y + (w + t + kc * t) = y + t + (kb * x + kc * (y + t) + w) := by rw [Int.mul_add, Int.add_mul]; omega
        rw [e2]; exact this
      · -- f in F0
        have h1 : (((f + t) :: F').Perm (b :: c :: (f + t) :: ws)) := by
          have a1 : F'.Perm (b :: c :: ws) := hz1.trans (hw2.cons b)
          exact ((a1.cons (f + t)).trans (List.Perm.swap ..)).trans ((List.Perm.swap ..).cons b)
        obtain ⟨kb, kc, w, e, q⟩ := ih h1
        refine ⟨kb, kc, w + f + t, by rw [e]; omega, fun x y => ?_⟩
        have p1 : (x :: y :: F0).Perm (f :: x :: y :: ws) := (((hw1.cons y).trans (List.Perm.swap ..)).cons x).trans (List.Perm.swap ..)
        have p2 : (x :: y :: (f + t) :: ws).Perm ((f + t) :: x :: y :: ws) := ((List.Perm.swap ..).cons x).trans (List.Perm.swap ..)
        have := Ach.cons p1 hT ((q x y).perm p2 (.refl _))
        have e2 : kb * x + kc * y + (w + f + t) = f + t + (kb * x + kc * y + w) := by omega
        rw [e2]; exact this
/-- free moments further apart are no worse -/
theorem Ach.apart {F0 T : List Int} {a b c d v : Int} (h : Ach (b :: c :: F0) T v) (h1 : a ≤ b) (h2 : a ≤ c) (h3 : a + d = b + c) : ∃ v', v' ≤ v ∧ Ach (a :: d :: F0) T v' := by
  obtain ⟨kb, kc, w, e, q⟩ := h.lin (.refl _)
  have hd : d = b + c - a := by omega
  by_cases hk : kc ≤ kb
  · refine ⟨_, ?_, q a d⟩
    have := Int.mul_nonneg (show 0 ≤ kb - kc by omega) (show 0 ≤ b - a by omega)
    rw [Int.sub_mul, Int.mul_sub, Int.mul_sub] at this
    rw [e, hd, Int.mul_sub, Int.mul_add]
    omega
  · refine ⟨_, ?_, (q d a).perm (List.Perm.swap ..) (.refl _)⟩
    have := Int.mul_nonneg (show 0 ≤ kc - kb by omega) (show 0 ≤ c - a by omega)
    rw [Int.sub_mul, Int.mul_sub, Int.mul_sub] at this
    rw [e, hd, Int.mul_sub, Int.mul_add]
    omega
theorem least_of : ∀ {F : List Int}, F ≠ [] → ∃ f F', F.Perm (f :: F') ∧ ∀ x ∈ F, f ≤ x
  | [], h => absurd rfl h
  | [a], _ => ⟨a, [], .refl _, by simp⟩
  | a :: b :: l, _ => by
    obtain ⟨f, F', p, q⟩ := least_of (F := b :: l) (by simp)
    by_cases h : a ≤ f
    · exact ⟨a, b :: l, .refl _, fun x hx => by
        rcases List.mem_cons.mp hx with rfl | hx
        · exact Int.le_refl _
        · exact Int.le_trans h (q x hx)⟩
    · exact ⟨f, a :: F', (p.cons a).trans (List.Perm.swap ..), fun x hx => by
        rcases List.mem_cons.mp hx with rfl | hx
        · omega
        · exact q x hx⟩
/-- the shortest job first, on the machine that is free first -/
theorem Ach.greedy : ∀ (n : Nat) {F F1 T T1 : List Int} {f1 t1 v : Int}, T.length ≤ n → Ach F T v → F.Perm (f1 :: F1) → (∀ x ∈ F, f1 ≤ x) → T.Perm (t1 :: T1) → (∀ x ∈ T, t1 ≤ x) → (∀ x ∈ T, 0 ≤ x) → ∃ v', f1 + t1 + v' ≤ v ∧ Ach ((f1 + t1) :: F1) T1 v'
  | 0, F, F1, T, T1, f1, t1, v, hn, _, _, _, hT, _, _ => by
    have := hT.length_eq
    simp at this hn
    subst hn
    simp at this
  | n + 1, F, F1, T, T1, f1, t1, v, hn, h, hF, lF, hT, lT, pT => by
    cases h with
    | nil => exact absurd hT.length_eq (by simp)
    | @cons _ F' _ T' f t v' gF gT g =>
      have ht1 : t1 ∈ T := hT.symm.subset (List.mem_cons_self ..)
      have hf1 : f1 ∈ F := hF.symm.subset (List.mem_cons_self ..)
      have htT : t ∈ T := gT.symm.subset (List.mem_cons_self ..)
      have hfF : f ∈ F := gF.symm.subset (List.mem_cons_self ..)
      have l1 := lT t htT
      have l2 := lF f hfF
      have p1 := pT t htT
      have sT : ∀ x ∈ T', x ∈ T := fun x hx => gT.symm.subset (List.mem_cons_of_mem _ hx)
      have sF : ∀ x ∈ F', x ∈ F := fun x hx => gF.symm.subset (List.mem_cons_of_mem _ hx)
      have hlen : T'.length ≤ n := by have := gT.length_eq; simp at this; omega
      rcases perm_pick (gF.symm.trans hF) with ⟨rfl, hp⟩ | ⟨zs, z1, z2⟩
      · -- the machine is the least one
        rcases perm_pick (gT.symm.trans hT) with ⟨rfl, hq⟩ | ⟨ws, w1, w2⟩
        · exact ⟨v', Int.le_refl _, g.perm (hp.cons _) hq⟩
        · -- another job is put there first
          obtain ⟨fm, FR, m1, m2⟩ := least_of (F := (f + t) :: F') (by simp)
          obtain ⟨v2, e2, q2⟩ := Ach.greedy n hlen g m1 m2 w1 (fun x hx => lT x (sT x hx)) (fun x hx => pT x (sT x hx))
          rcases perm_pick m1 with ⟨em, mp⟩ | ⟨ys, y1, y2⟩
          · -- on the same machine
            refine ⟨f + t1 + t + v2, by omega, ?_⟩
            refine Ach.cons (f := f + t1) (t := t) (.refl _) w2 ?_
            rw [show f + t1 + t = fm + t1 by omega]
            exact q2.perm ((mp.symm.trans hp).cons _) (.refl _)
          · have hfm : f ≤ fm := lF fm (sF fm (y1.symm.subset (List.mem_cons_self ..)))
            have q3 : Ach ((f + t) :: (fm + t1) :: ys) ws v2 := q2.perm ((y2.cons _).trans (List.Perm.swap ..)) (.refl _)
            obtain ⟨v3, e3, q4⟩ := q3.apart (a := f + t1) (d := fm + t) (by omega) (by omega) (by omega)
            refine ⟨fm + t + v3, by omega, ?_⟩
            refine Ach.cons (f := fm) (t := t) (F' := (f + t1) :: ys) ?_ w2 (q4.perm (List.Perm.swap ..) (.refl _))
            exact ((hp.symm.trans y1).cons _).trans (List.Perm.swap ..)
      · -- another machine
        have hcase : T' = [] ∨ T' ≠ [] := by cases T' <;> simp
        rcases hcase with e0 | hne
        · subst e0
          have e1 : T = [t] := gT.eq_singleton
          subst e1
          have e2 : T1 = [] ∧ t1 = t := by
            have := hT.length_eq
            simp at this
            refine ⟨?_, by simpa using ht1⟩
            cases T1 with
            | nil => rfl
            | cons _ _ => simp at this
          obtain ⟨rfl, rfl⟩ := e2
          have hv : v' = 0 := by
            cases g with
            | nil => rfl
            | cons _ b _ => exact absurd b.length_eq (by simp)
          subst hv
          exact ⟨0, by omega, .nil _⟩
        · obtain ⟨ta, TR, r1, r2⟩ := least_of hne
          have hta : ta ∈ T := sT ta (r1.symm.subset (List.mem_cons_self ..))
          have l3 := lT ta hta
          have m1 : ((f + t) :: F').Perm (f1 :: (f + t) :: zs) := (z1.cons _).trans (List.Perm.swap ..)
          obtain ⟨v2, e2, q2⟩ := Ach.greedy n hlen g m1 (fun x hx => by
            rcases List.mem_cons.mp hx with rfl | hx
            · omega
            · exact lF x (sF x hx)) r1 r2 (fun x hx => pT x (sT x hx))
          rcases perm_pick ((gT.trans (r1.cons t)).symm.trans hT) with ⟨rfl, hq⟩ | ⟨ws, w1, w2⟩
          · -- t is the least
            obtain ⟨v3, e3, q4⟩ := q2.apart (a := f1 + t) (d := f + ta) (by omega) (by omega) (by omega)
            refine ⟨f + ta + v3, by omega, ?_⟩
            refine Ach.cons (f := f) (t := ta) (F' := (f1 + t) :: zs) ((z2.cons _).trans (List.Perm.swap ..)) hq.symm ?_
            exact q4.perm (List.Perm.swap ..) (.refl _)
          · have e1 : ta = t1 := by
              have a1 : t1 ∈ T' := r1.symm.subset (w1.symm.subset (List.mem_cons_self ..))
              have := r2 t1 a1
              omega
            subst e1
            have w3 : TR.Perm ws := w1.cons_inv
            refine ⟨f + t + v2, by omega, ?_⟩
            refine Ach.cons (f := f) (t := t) (F' := (f1 + ta) :: zs) ((z2.cons _).trans (List.Perm.swap ..)) w2 ?_
            exact q2.perm (List.Perm.swap ..) w3
/-- the least sum -/
def IsMin (F T : List Int) (v : Int) : Prop := Ach F T v ∧ ∀ v', Ach F T v' → v ≤ v'
theorem IsMin.perm {F T F2 T2 : List Int} {v : Int} (h : IsMin F T v) (hF : F.Perm F2) (hT : T.Perm T2) : IsMin F2 T2 v := ⟨h.1.perm hF hT, fun v' h' => h.2 v' (h'.perm hF.symm hT.symm)⟩
theorem IsMin.uniq {F T : List Int} {v w : Int} (h : IsMin F T v) (k : IsMin F T w) : v = w := by
  have := h.2 w k.1
  have := k.2 v h.1
  omega
theorem IsMin.nil (F : List Int) : IsMin F [] 0 := ⟨.nil F, fun v' h => by
  cases h with
  | nil => exact Int.le_refl _
  | cons _ b _ => exact absurd b.length_eq (by simp)⟩
theorem IsMin.step {F F1 T T1 : List Int} {f1 t1 v : Int} (h : IsMin ((f1 + t1) :: F1) T1 v) (hF : F.Perm (f1 :: F1)) (lF : ∀ x ∈ F, f1 ≤ x) (hT : T.Perm (t1 :: T1)) (lT : ∀ x ∈ T, t1 ≤ x) (pT : ∀ x ∈ T, 0 ≤ x) : IsMin F T (f1 + t1 + v) := by
  refine ⟨.cons hF hT h.1, fun w hw => ?_⟩
  obtain ⟨v', e, q⟩ := Ach.greedy T.length (Nat.le_refl _) hw hF lF hT lT pT
  have := h.2 v' q
  omega
end Lk89

namespace Lk89
open PySem PySem.Spec PyProof.Rows L2 Z
/-! ### the days keep the least sum -/
def frO (now : Int) (o : Option Job) : Int := match o with
  | some j => j.2
  | none => now
def frees (d : Dy) : List Int := d.run.map (frO d.now)
def tms (w : List Job) : List Int := w.map (·.2)
structure Gd (d : Dy) : Prop where
  ne : d.run ≠ []
  ge : ∀ j, some j ∈ d.run → d.now ≤ j.2
  full : d.wt ≠ [] → none ∉ d.run
  tm : ∀ j ∈ d.wt, 0 ≤ j.2
def bgR (now : Int) : List (Option Job) → List Job → List (Option Job) × List Job
  | [], w => ([], w)
  | o :: xs, w => ((bg1 now o w).1 :: (bgR now xs (bg1 now o w).2).1, (bgR now xs (bg1 now o w).2).2)
theorem bg_R (now : Int) (xs : List (Option Job)) : ∀ (w : List Job), bg now xs w = bgR now xs w := by
  have gen : ∀ (xs : List (Option Job)) (acc : List (Option Job)) (w : List Job), xs.foldl (fun p o => (p.1 ++ [(bg1 now o p.2).1], (bg1 now o p.2).2)) (acc, w) = (acc ++ (bgR now xs w).1, (bgR now xs w).2) := by
    intro xs
    induction xs with
    | nil => intro acc w; simp [bgR]
    | cons o xs ih =>
      intro acc w
      rw [List.foldl_cons]
      have := ih (acc ++ [(bg1 now o w).1]) (bg1 now o w).2
      rw [this]
      simp [bgR]
  intro w
  have := gen xs [] w
  unfold bg
  rw [this]
  simp
theorem bgR_nil (now : Int) : ∀ xs : List (Option Job), bgR now xs [] = (xs, [])
  | [] => rfl
  | o :: xs => by
    have h : bg1 now o [] = (o, []) := by cases o <;> rfl
    unfold bgR
    rw [h]
    simp only [bgR_nil now xs]
theorem bgR_full (now : Int) : ∀ (xs : List (Option Job)) (w : List Job), (bgR now xs w).2 ≠ [] → none ∉ (bgR now xs w).1
  | [], _, _ => by simp [bgR]
  | o :: xs, w, h => by
    unfold bgR at h ⊢
    intro hm
    rcases List.mem_cons.mp hm with e | e
    · cases o with
      | some j =>
        have : bg1 now (some j) w = (some j, w) := by cases w <;> rfl
        rw [this] at e; cases e
      | none =>
        cases w with
        | nil =>
          have : bg1 now none [] = (none, []) := rfl
          rw [this] at h
          simp only [bgR_nil] at h
          exact h rfl
        | cons a r => simp [bg1] at e
    · exact bgR_full now xs _ h e
theorem bg1_ge {now : Int} {o : Option Job} {w : List Job} (ho : ∀ j, o = some j → now ≤ j.2) (hw : ∀ j ∈ w, 0 ≤ j.2) : ∀ j, (bg1 now o w).1 = some j → now ≤ j.2 := by
  intro j hj
  cases o with
  | some k =>
    have : bg1 now (some k) w = (some k, w) := by cases w <;> rfl
    rw [this] at hj
    exact ho j hj
  | none =>
    cases w with
    | nil => cases hj
    | cons a r =>
      have hk := sh_lt (w := a :: r) (by simp)
      have e : ((a :: r).getD (sh (a :: r)) j0) ∈ a :: r := by
        rw [List.getD_eq_getElem?_getD, List.getElem?_eq_getElem hk]
        exact List.getElem_mem hk
      have := hw _ e
      have hj' : some (((a :: r).getD (sh (a :: r)) j0).1, now + ((a :: r).getD (sh (a :: r)) j0).2) = some j := hj
      rw [← Option.some.inj hj']
      show now ≤ now + _
      omega
theorem bgR_ge (now : Int) : ∀ (xs : List (Option Job)) (w : List Job), (∀ j, some j ∈ xs → now ≤ j.2) → (∀ j ∈ w, 0 ≤ j.2) → ∀ j, some j ∈ (bgR now xs w).1 → now ≤ j.2
  | [], _, _, _, j, h => by cases h
  | o :: xs, w, ho, hw, j, h => by
    unfold bgR at h
    rcases List.mem_cons.mp h with e | e
    · exact bg1_ge (fun j e => ho j (by rw [e]; exact List.mem_cons_self ..)) hw j e.symm
    · exact bgR_ge now xs _ (fun j hj => ho j (List.mem_cons_of_mem _ hj)) (fun j hj => hw j ((bg1_wlen now o w).2 j hj)) j e
theorem ends_cons (o : Option Job) (xs : List (Option Job)) : (ends (o :: xs)).sum = (ends [o]).sum + (ends xs).sum := by
  have : ends (o :: xs) = ends [o] ++ ends xs := by
    cases o <;> rfl
  rw [this, List.sum_append]
theorem erase_perm' {α : Type} : ∀ {l : List α} {k : Nat} (h : k < l.length), (l[k] :: l.eraseIdx k).Perm l
  | [], k, h => absurd h (Nat.not_lt_zero k)
  | a :: l, 0, _ => .refl _
  | a :: l, k + 1, h => by
    have hk : k < l.length := by simpa using h
    have := erase_perm' (l := l) (k := k) hk
    show (l[k] :: a :: l.eraseIdx k).Perm (a :: l)
    exact (List.Perm.swap a l[k] (l.eraseIdx k)).trans (this.cons a)
theorem bgR_opt (now : Int) : ∀ (xs : List (Option Job)) (w : List Job) (P : List Int) (m : Int), (∀ f ∈ P, now ≤ f) → (∀ j, some j ∈ xs → now ≤ j.2) → (∀ j ∈ w, 0 ≤ j.2) →
    IsMin (P ++ (bgR now xs w).1.map (frO now)) (tms (bgR now xs w).2) m → IsMin (P ++ xs.map (frO now)) (tms w) ((ends (bgR now xs w).1).sum - (ends xs).sum + m)
  | [], w, P, m, _, _, _, h => by
    have e : (ends (bgR now [] w).1).sum - (ends []).sum + m = m := by
      show ((0 : Int) - 0 + m) = m
      omega
    rw [e]
    exact h
  | o :: xs, w, P, m, hP, ho, hw, h => by
    have ho' : ∀ j, some j ∈ xs → now ≤ j.2 := fun j hj => ho j (List.mem_cons_of_mem _ hj)
    have same : bg1 now o w = (o, w) → IsMin (P ++ (o :: xs).map (frO now)) (tms w) ((ends (bgR now (o :: xs) w).1).sum - (ends (o :: xs)).sum + m) := by
      intro hb
      have e1 : bgR now (o :: xs) w = (o :: (bgR now xs w).1, (bgR now xs w).2) := by
        show ((bg1 now o w).1 :: (bgR now xs (bg1 now o w).2).1, (bgR now xs (bg1 now o w).2).2) = _
        rw [hb]
      rw [e1] at h ⊢
      have h' : IsMin ((P ++ [frO now o]) ++ (bgR now xs w).1.map (frO now)) (tms (bgR now xs w).2) m := by
        rw [List.append_assoc]; exact h
      have hP' : ∀ f ∈ P ++ [frO now o], now ≤ f := fun f hf => by
        rcases List.mem_append.mp hf with z | z
        · exact hP f z
        · have : f = frO now o := by simpa using z
          rw [this]
          cases o with
          | none => exact Int.le_refl _
          | some j => exact ho j (List.mem_cons_self ..)
      have := bgR_opt now xs w (P ++ [frO now o]) m hP' ho' hw h'
      rw [List.append_assoc] at this
      have e2 : (ends (o :: (bgR now xs w).1)).sum - (ends (o :: xs)).sum + m = (ends (bgR now xs w).1).sum - (ends xs).sum + m := by
        rw [ends_cons o xs, ends_cons o (bgR now xs w).1]; omega
      rw [e2]
      exact this
    cases o with
    | some j => exact same (by cases w <;> rfl)
    | none =>
      cases w with
      | nil => exact same rfl
      | cons a r =>
        have hk := sh_lt (w := a :: r) (by simp)
        generalize hkk : sh (a :: r) = k at hk
        generalize hj : (a :: r).getD k j0 = j
        have hle : ∀ x ∈ a :: r, j.2 ≤ x.2 := fun x hx => by
          obtain ⟨i, hi, e⟩ := List.getElem_of_mem hx
          have := shB_le (a :: r) (a :: r).length i hi
          have e2 : shB (a :: r) (a :: r).length = k := hkk
          rw [e2, hj, List.getD_eq_getElem?_getD, List.getElem?_eq_getElem hi] at this
          rw [← e]; exact this
        have hjm : (a :: r)[k] = j := by
          rw [← hj, List.getD_eq_getElem?_getD, List.getElem?_eq_getElem hk]; rfl
        have hpm : (a :: r).Perm (j :: (a :: r).eraseIdx k) := by
          have := (erase_perm' hk).symm
          rw [hjm] at this
          exact this
        have hj0 : 0 ≤ j.2 := hw j (hpm.symm.subset (List.mem_cons_self ..))
        have hb : bg1 now none (a :: r) = (some (j.1, now + j.2), (a :: r).eraseIdx k) := by
          show (some (((a :: r).getD (sh (a :: r)) j0).1, now + ((a :: r).getD (sh (a :: r)) j0).2), (a :: r).eraseIdx (sh (a :: r))) = _
          rw [hkk, hj]
        have e1 : bgR now (none :: xs) (a :: r) = (some (j.1, now + j.2) :: (bgR now xs ((a :: r).eraseIdx k)).1, (bgR now xs ((a :: r).eraseIdx k)).2) := by
          show ((bg1 now none (a :: r)).1 :: (bgR now xs (bg1 now none (a :: r)).2).1, (bgR now xs (bg1 now none (a :: r)).2).2) = _
          rw [hb]
        rw [e1] at h ⊢
        have h' : IsMin ((P ++ [now + j.2]) ++ (bgR now xs ((a :: r).eraseIdx k)).1.map (frO now)) (tms (bgR now xs ((a :: r).eraseIdx k)).2) m := by
          rw [List.append_assoc]; exact h
        have hP' : ∀ f ∈ P ++ [now + j.2], now ≤ f := fun f hf => by
          rcases List.mem_append.mp hf with z | z
          · exact hP f z
          · have : f = now + j.2 := by simpa using z
            omega
        have hr : ∀ x ∈ (a :: r).eraseIdx k, 0 ≤ x.2 := fun x hx => hw x (List.mem_of_mem_eraseIdx hx)
        have ih := bgR_opt now xs _ (P ++ [now + j.2]) m hP' ho' hr h'
        have e3 : (ends (some (j.1, now + j.2) :: (bgR now xs ((a :: r).eraseIdx k)).1)).sum - (ends (none :: xs)).sum + m = now + j.2 + ((ends (bgR now xs ((a :: r).eraseIdx k)).1).sum - (ends xs).sum + m) := by
          rw [ends_cons none xs, ends_cons (some (j.1, now + j.2))]
          have a1 : (ends [some (j.1, now + j.2)]).sum = now + j.2 := by simp [ends]
          have a2 : (ends [(none : Option Job)]).sum = 0 := rfl
          rw [a1, a2]; omega
        rw [e3]
        have hF : (P ++ (none :: xs).map (frO now)).Perm (now :: (P ++ xs.map (frO now))) := List.perm_middle
        refine IsMin.step (F1 := P ++ xs.map (frO now)) (T1 := tms ((a :: r).eraseIdx k)) (ih.perm ?_ (.refl _)) hF (fun x hx => ?_) ?_ (fun x hx => ?_) fun x hx => ?_
        · rw [List.append_assoc]
          exact List.perm_middle
        · rcases List.mem_append.mp hx with z | z
          · exact hP x z
          · obtain ⟨o, hm, rfl⟩ := List.mem_map.mp z
            cases o with
            | none => exact Int.le_refl _
            | some y => exact ho y hm
        · exact hpm.map (·.2)
        · obtain ⟨y, hy, rfl⟩ := List.mem_map.mp hx
          exact hle y hy
        · obtain ⟨y, hy, rfl⟩ := List.mem_map.mp hx
          exact hw y hy
theorem Gd.beg {d : Dy} (ne : d.run ≠ []) (ge : ∀ j, some j ∈ d.run → d.now ≤ j.2) (tm : ∀ j ∈ d.wt, 0 ≤ j.2) : Gd (begD d) := by
  have e1 : (begD d).run = (bgR d.now d.run d.wt).1 := by rw [← bg_R]; rfl
  have e2 : (begD d).wt = (bgR d.now d.run d.wt).2 := by rw [← bg_R]; rfl
  refine ⟨fun z => ?_, fun j hj => ?_, fun h => ?_, fun j hj => tm j (beg_wt d j hj)⟩
  · have := beg_run d
    rw [z] at this
    exact ne (List.length_eq_zero_iff.mp this.symm)
  · rw [e1] at hj
    exact bgR_ge d.now d.run d.wt ge tm j hj
  · rw [e1]
    rw [e2] at h
    exact bgR_full _ _ _ h
theorem begD_opt {d : Dy} {m : Int} (ge : ∀ j, some j ∈ d.run → d.now ≤ j.2) (tm : ∀ j ∈ d.wt, 0 ≤ j.2) (h : IsMin (frees (begD d)) (tms (begD d).wt) m) : IsMin (frees d) (tms d.wt) ((ends (begD d).run).sum - (ends d.run).sum + m) := by
  have e1 : (begD d).run = (bgR d.now d.run d.wt).1 := by rw [← bg_R]; rfl
  have e2 : (begD d).wt = (bgR d.now d.run d.wt).2 := by rw [← bg_R]; rfl
  have e3 : frees (begD d) = (bgR d.now d.run d.wt).1.map (frO d.now) := by
    show (begD d).run.map (frO d.now) = _
    rw [e1]
  rw [e3, e2] at h
  rw [e1]
  exact bgR_opt d.now d.run d.wt [] m (fun _ h => by cases h) ge tm h
theorem at_sum (m : Int) : ∀ r : List (Option Job), sumT ((r.filter (over m)).filterMap id) + (ends (r.map fun o => if over m o then none else o)).sum = (ends r).sum
  | [] => rfl
  | o :: r => by
    have ih := at_sum m r
    rw [List.map_cons, ends_cons o r, ends_cons (if over m o then none else o), List.filter_cons, ← ih]
    cases o with
    | none =>
      have e : over m none = false := rfl
      rw [e]
      simp only [Bool.false_eq_true, if_false]
      omega
    | some j =>
      by_cases h : j.2 ≤ m
      · have e : over m (some j) = true := decide_eq_true h
        rw [e]
        simp only [if_true, List.filterMap_cons, id]
        have a1 : (ends [(none : Option Job)]).sum = 0 := rfl
        have a2 : (ends [some j]).sum = j.2 := by simp [ends]
        have a3 : sumT (j :: (r.filter (over m)).filterMap id) = j.2 + sumT ((r.filter (over m)).filterMap id) := by simp [sumT]
        rw [a1, a2, a3]; omega
      · have e : over m (some j) = false := decide_eq_false h
        rw [e]
        simp only [Bool.false_eq_true, if_false]
        omega
theorem mem_ends {r : List (Option Job)} {j : Job} (h : some j ∈ r) : j.2 ∈ ends r := List.mem_filterMap.mpr ⟨some j, h, rfl⟩
theorem at_frees {d : Dy} {e : Int} (h : nextEnd d.run = some e) (hf : none ∉ d.run) : frees (atM e d) = frees d := by
  unfold frees
  show (d.run.map fun o => if over e o then none else o).map (frO e) = d.run.map (frO d.now)
  rw [List.map_map]
  refine List.map_congr_left fun o ho => ?_
  cases o with
  | none => exact absurd ho hf
  | some j =>
    have hl := (next_mem h).2 j.2 (mem_ends ho)
    by_cases hj : j.2 ≤ e
    · have e1 : over e (some j) = true := decide_eq_true hj
      show frO e (if over e (some j) then none else some j) = j.2
      rw [e1]
      show e = j.2
      omega
    · have e1 : over e (some j) = false := decide_eq_false hj
      show frO e (if over e (some j) then none else some j) = j.2
      rw [e1]
      rfl
theorem at_ge {d : Dy} {e : Int} (j : Job) (hj : some j ∈ (atM e d).run) : e ≤ j.2 ∧ some j ∈ d.run := by
  have hj' : some j ∈ d.run.map fun o => if over e o then none else o := hj
  obtain ⟨o, ho, ej⟩ := List.mem_map.mp hj'
  split at ej
  · cases ej
  · rename_i hov
    subst ej
    refine ⟨?_, ho⟩
    have : ¬ decide (j.2 ≤ e) = true := hov
    have : ¬ j.2 ≤ e := fun z => this (decide_eq_true z)
    omega
theorem Gd.stp {d : Dy} (g : Gd d) (e : Int) : Gd (stp d e) := by
  refine Gd.beg (fun z => g.ne ?_) (fun j hj => (at_ge j hj).1) g.tm
  exact List.map_eq_nil_iff.mp z
theorem finN_opt : ∀ (k : Nat) {d : Dy}, Gd d → mL d ≤ k → ∃ m, IsMin (frees d) (tms d.wt) m ∧ sumT (finN k d).dn = sumT d.dn + (ends d.run).sum + m
  | 0, d, g, hk => by
    have h1 : d.wt = [] := by
      have : d.wt.length = 0 := by unfold mL at hk; omega
      exact List.length_eq_zero_iff.mp this
    have h2 : ends d.run = [] := by
      have : (ends d.run).length = 0 := by unfold mL at hk; omega
      exact List.length_eq_zero_iff.mp this
    refine ⟨0, by rw [h1]; exact IsMin.nil _, ?_⟩
    rw [h2]
    show sumT d.dn = sumT d.dn + 0 + 0
    omega
  | k + 1, d, g, hk => by
    cases hn : nextEnd d.run with
    | none =>
      have h2 : ends d.run = [] := by
        unfold nextEnd at hn
        cases he : ends d.run with
        | nil => rfl
        | cons a l => rw [he] at hn; cases hn
      have h1 : d.wt = [] := by
        rcases List.eq_nil_or_concat d.wt with z | ⟨_, _, z⟩
        · exact z
        · exfalso
          have hf := g.full (by rw [z]; simp)
          cases hr : d.run with
          | nil => exact g.ne hr
          | cons o r =>
            cases o with
            | none => exact hf (by rw [hr]; exact List.mem_cons_self ..)
            | some j =>
              have := mem_ends (r := d.run) (j := j) (by rw [hr]; exact List.mem_cons_self ..)
              rw [h2] at this
              cases this
      refine ⟨0, by rw [h1]; exact IsMin.nil _, ?_⟩
      unfold finN
      rw [hn, h2]
      show sumT d.dn = sumT d.dn + 0 + 0
      omega
    | some e =>
      have hlt := stp_mL hn
      obtain ⟨m, q, hs⟩ := finN_opt k (g.stp e) (by omega)
      have ge : ∀ j, some j ∈ (atM e d).run → (atM e d).now ≤ j.2 := fun j hj => (at_ge j hj).1
      have q2 := begD_opt ge g.tm q
      have hsum : sumT (atM e d).dn + (ends (atM e d).run).sum = sumT d.dn + (ends d.run).sum := by
        have := at_sum e d.run
        have e1 : sumT (atM e d).dn = sumT d.dn + sumT ((d.run.filter (over e)).filterMap id) := by
          show sumT (d.dn ++ _) = _
          unfold sumT
          rw [List.map_append, List.sum_append]
        have e2 : (ends (atM e d).run).sum = (ends (d.run.map fun o => if over e o then none else o)).sum := rfl
        omega
      have hfin : finN (k + 1) d = finN k (Lk89.stp d e) := by
        show (match nextEnd d.run with
          | none => d
          | some e => finN k (Lk89.stp d e)) = _
        rw [hn]
      have hdn : sumT (Lk89.stp d e).dn = sumT (atM e d).dn := rfl
      have hrun : (ends (begD (atM e d)).run).sum = (ends (Lk89.stp d e).run).sum := rfl
      refine ⟨(ends (begD (atM e d)).run).sum - (ends (atM e d).run).sum + m, ?_, ?_⟩
      · by_cases hw : d.wt = []
        · have hm : IsMin (frees d) (tms d.wt) 0 := by rw [hw]; exact IsMin.nil _
          have q3 : IsMin (frees (atM e d)) (tms d.wt) ((ends (begD (atM e d)).run).sum - (ends (atM e d).run).sum + m) := q2
          have q4 : IsMin (frees (atM e d)) (tms d.wt) 0 := by rw [hw]; exact IsMin.nil _
          rw [q3.uniq q4]
          exact hm
        · have := at_frees hn (g.full hw)
          rw [← this]
          exact q2
      · rw [hfin, hs, hdn]
        omega
theorem fin_opt {d : Dy} (g : Gd d) : ∃ m, IsMin (frees d) (tms d.wt) m ∧ sumT (fin d).dn = sumT d.dn + (ends d.run).sum + m := finN_opt _ g (Nat.le_refl _)
/-! ### time goes by: the end stays -/
theorem finN_now : ∀ (k : Nat) (d : Dy) (n : Int) (s : Str), (finN k { d with now := n, log := s }).dn = (finN k d).dn
  | 0, d, n, s => rfl
  | k + 1, d, n, s => by
    have e : finN (k + 1) { d with now := n, log := s } = match nextEnd d.run with
      | none => { d with now := n, log := s }
      | some e => finN k (stp { d with now := n, log := s } e) := rfl
    have e2 : finN (k + 1) d = match nextEnd d.run with
      | none => d
      | some e => finN k (stp d e) := rfl
    rw [e, e2]
    cases nextEnd d.run with
    | none => rfl
    | some x => exact finN_now k (stp d x) x s
theorem fin_now (d : Dy) (n : Int) (s : Str) : (fin { d with now := n, log := s }).dn = (fin d).dn := finN_now _ d n s
theorem fin_pasN (last : Int) : ∀ (k : Nat) (d : Dy), fin (pasN last k d) = fin d
  | 0, d => rfl
  | k + 1, d => by
    unfold pasN
    cases hn : nextEnd d.run with
    | none => rfl
    | some e =>
      simp only
      split
      · rw [fin_pasN last k (stp d e), fin_stp hn]
      · rfl
theorem fin_pas (last : Int) (d : Dy) : fin (pas last d) = fin d := fin_pasN last _ d
theorem fin_wait (last n : Int) (s : Str) (d : Dy) : (fin { pas last d with now := n, log := s }).dn = (fin d).dn := by
  rw [fin_now, fin_pas]
theorem Gd.pasN (last : Int) : ∀ (k : Nat) {d : Dy}, Gd d → Gd (pasN last k d)
  | 0, d, g => g
  | k + 1, d, g => by
    unfold Lk89.pasN
    cases hn : nextEnd d.run with
    | none => exact g
    | some e =>
      simp only
      split
      · exact Gd.pasN last k (g.stp e)
      · exact g
theorem pasN_end (last : Int) : ∀ (k : Nat) (d : Dy), mL d ≤ k → ∀ e, nextEnd (pasN last k d).run = some e → ¬ e ≤ last
  | 0, d, hk, e, he => by
    have h2 : ends d.run = [] := by
      have : (ends d.run).length = 0 := by unfold mL at hk; omega
      exact List.length_eq_zero_iff.mp this
    have he' : nextEnd d.run = some e := he
    unfold nextEnd at he'
    rw [h2] at he'
    cases he'
  | k + 1, d, hk, e, he => by
    unfold pasN at he
    cases hn : nextEnd d.run with
    | none =>
      rw [hn] at he
      simp only at he
      rw [hn] at he
      cases he
    | some x =>
      rw [hn] at he
      have := stp_mL hn
      simp only at he
      split at he
      · exact pasN_end last k (stp d x) (by omega) e he
      · rw [hn] at he
        cases he
        assumption
theorem Gd.wait {d : Dy} (g : Gd d) (last : Int) (s : Str) : Gd { pas last d with now := last, log := s } := by
  have h := g.pasN last (mL d)
  refine ⟨h.ne, fun j hj => ?_, h.full, h.tm⟩
  have := no_end (pasN_end last (mL d) d (Nat.le_refl _)) j.2 (mem_ends hj)
  show last ≤ j.2
  omega
end Lk89

namespace Lk89
open PySem PySem.Spec PyProof.Rows L2 Z
local macro_rules | `(tactic| and_intros) => `(tactic| simp only [denS, denR, denE, denEs, denT, denTs, denBop, denN, denO, denC, denW, Exs.isNil, tos_seq, tos_bindR, tos_nx, tos_rt, tos_bk, tos_ct, to_bind, to_noex, to_ok, to_some, to_ite, to_fit, to_map, to_obind, tob_nil, var_z, var_o, var_s, set_z, set_s, Option.map_some, Option.bind_some, b_add, b_sub, b_mul, b_div, b_mod, b_pow, b_adds, b_addl, b_mull, c_lt, c_le, c_gt, c_ge, c_is, c_isn, c_eq, c_ne, e_int, t_bl, t_int, t_lst, t_non, i_tup, i_lst, i_loc, at0, at1, at2, l_lst, m_lst, l_scr, f_int, f_len, f_lens, f_lent, f_sum, f_max2, f_min2, bt_bits, bd_bits, g_rng1, g_rng2, List.set_cons_zero, List.set_cons_succ, wipeR, c_nins, sg_str, f_isi1, f_isi2, f_isi3, f_isi4, bt_join, f_strs, f_stri, eI_some, eI_none, isNonInt, isNonN, i_eJ, isNonO, eO_some, eO_none, isNonJ, Option.isNone_some, Option.isNone_none, Bool.not_false, Bool.not_true, a_now, a_run, a_wt, a_dn, a_log, m_next, m_at, m_begun, m_fin, m_names, m_ww, m_passed, mk_day, List.map_cons, List.map_nil, List.length_cons, List.length_nil, List.replicate, List.cons_append, List.nil_append])
local macro_rules | `(tactic| trivial) => `(tactic| first | exact ⟨rfl, rfl⟩ | exact ⟨True.intro, True.intro⟩ | exact ⟨rfl, True.intro⟩ | exact ⟨True.intro, rfl⟩ | exact True.intro | rfl)
/-! ### the brute force -/
section
variable {μ : Mu} {n g h k : Nat} {x : List D} {d : Dy} {Q : D → Mu → Prop} {i j : Int}
theorem cs2 : G.cs[2]? = some ⟨2, 32, [(31, 33), (8, 34), (9, 35), (10, 36), (32, 37), (27, 38), (11, 39), (26, 40), (28, 41)], [12], false⟩ := rfl
theorem cut_mid {α : Type} {xs : List α} {a b : Nat} (h : a ≤ b) (hb : a ≤ xs.length) : Z.cutD xs (some (a : Int)) (some (b : Int)) = (xs.drop a).take (b - a) := by
  unfold Z.cutD
  rw [HT.sIx_nat, HT.sIx_nat, Nat.min_eq_left hb]
  by_cases hl : b ≤ xs.length
  · rw [Nat.min_eq_left hl]
  · rw [Nat.min_eq_right (by omega), List.take_of_length_le (by rw [List.length_drop]; omega), List.take_of_length_le (by rw [List.length_drop]; omega)]
theorem f_min {e : Int} {es : List Int} : biD .min μ [.lst ((e :: es).map .int)] = some (.int (minI e es)) := by
  show (match (intsD ((e :: es).map .int)) with
    | some (m :: r) => some (D.int (minI m r))
    | _ => none) = _
  rw [Z.ints_map]
theorem house_to {m : Int} (h1 : 1 ≤ m) (h8 : m ≤ 8) (hg : μ[g]? = some (.lst x)) (hq : ∀ μ' h, Hs μ' g h x (day0 m.toNat) 0 → Q (.loc h) μ') : R.To (makeD G.cs (phi G.cs (fbs G.toGi) (n + 3)) 2 [.int m] μ) Q := by
  have hgl := (List.getElem?_eq_some_iff.mp hg).1
  refine mk_cell cs2 rfl ?_
  refine to_phi fb32 rfl ?_
  unfold ir32
  refine tob_cons ?_
  and_intros
  refine machs_to h1 h8 ?_
  and_intros
  refine tob_cons ?_
  and_intros
  refine ⟨by decide, ⟨by
    have h24 : sizeLine = 16777216 := by decide
    rw [i63_iff.mpr (by omega)]
    exact decide_eq_true (by simp; omega), ?_⟩⟩
  refine ⟨by decide, by decide, ?_⟩
  have em : (List.replicate m.toNat [D.non]).flatten = (List.replicate m.toNat (none : Option Job)).map eO := rep_non m.toNat
  rw [em]
  refine mk_cell cs0 rfl ?_
  have hl2 : (μ ++ [Cell.obj 2 []] ++ [Cell.obj 0 []])[(μ ++ [Cell.obj 2 []]).length]? = some (.obj 0 []) := by
    rw [List.getElem?_append_right (Nat.le_refl _), Nat.sub_self]; rfl
  refine steps_to hl2 fun μ' el b c q1 q2 q3 q4 => ⟨rfl, ?_⟩
  and_intros
  have hk1 : (μ ++ [Cell.obj 2 []] ++ [Cell.obj 0 []])[μ.length]? = some (.obj 2 []) := by
    rw [List.getElem?_append_left (by simp), List.getElem?_append_right (Nat.le_refl _), Nat.sub_self]; rfl
  have hk0 : (μ ++ [Cell.obj 2 []] ++ [Cell.obj 0 []])[g]? = some (.lst x) := by
    rw [List.append_assoc, List.getElem?_append_left hgl]; exact hg
  have hs := q4 μ.length _ (by simp) hk1
  rw [s_gen hs (by decide +kernel) (by simp)]
  and_intros
  refine ⟨by trivial, hq _ μ.length ?_⟩
  have hlen : μ.length < μ'.length := (List.getElem?_eq_some_iff.mp hs).1
  have n1 : μ.length ≠ (μ ++ [Cell.obj 2 []]).length := by simp
  have n2 : g ≠ μ.length := by omega
  have n3 : g ≠ (μ ++ [Cell.obj 2 []]).length := by simp; omega
  have q3' : μ.length + 2 ≤ el := by simpa using q3
  exact ⟨_, el, b, c, [], by rw [List.getElem?_set_ne n2.symm]; exact q4 g _ n3 hk0, by rw [List.getElem?_set_self hlen]; rfl, by rw [List.getElem?_set_ne n1]; exact q1, by rw [List.getElem?_set_ne (by omega)]; exact q2, by simp, by omega⟩
end
end Lk89

namespace Lk89
open PySem PySem.Spec PyProof.Rows L2 Z
local macro_rules | `(tactic| and_intros) => `(tactic| simp only [denS, denR, denE, denEs, denT, denTs, denBop, denN, denO, denC, denW, Exs.isNil, tos_seq, tos_bindR, tos_nx, tos_rt, tos_bk, tos_ct, to_bind, to_noex, to_ok, to_some, to_ite, to_fit, to_map, to_obind, tob_nil, var_z, var_o, var_s, set_z, set_s, Option.map_some, Option.bind_some, b_add, b_sub, b_mul, b_div, b_mod, b_pow, b_adds, b_addl, b_mull, c_lt, c_le, c_gt, c_ge, c_is, c_isn, c_eq, c_ne, e_int, t_bl, t_int, t_lst, t_non, i_tup, i_lst, i_loc, at0, at1, at2, l_lst, m_lst, l_scr, f_int, f_len, f_lens, f_lent, f_sum, f_max2, f_min2, bt_bits, bd_bits, g_rng1, g_rng2, List.set_cons_zero, List.set_cons_succ, wipeR, c_nins, sg_str, f_isi1, f_isi2, f_isi3, f_isi4, bt_join, f_strs, f_stri, eI_some, eI_none, isNonInt, isNonN, i_eJ, isNonO, eO_some, eO_none, isNonJ, Option.isNone_some, Option.isNone_none, Bool.not_false, Bool.not_true, a_now, a_run, a_wt, a_dn, a_log, m_next, m_at, m_begun, m_fin, m_names, m_ww, m_passed, mk_day, List.map_cons, List.map_nil, List.length_cons, List.length_nil, List.replicate, List.cons_append, List.nil_append])
local macro_rules | `(tactic| trivial) => `(tactic| first | exact ⟨rfl, rfl⟩ | exact ⟨True.intro, True.intro⟩ | exact ⟨rfl, True.intro⟩ | exact ⟨True.intro, rfl⟩ | exact True.intro | rfl)
/-! ### what stays as days go by -/
theorem OkD.upd {d : Dy} (h : OkD d) (n : Int) (s : Str) : OkD { d with now := n, log := s } := ⟨h.rl, h.cnt, h.nw, h.nd, h.nr⟩
theorem OkD.pasN (last : Int) : ∀ (k : Nat) {d : Dy}, OkD d → OkD (pasN last k d)
  | 0, d, g => g
  | k + 1, d, g => by
    unfold Lk89.pasN
    cases hn : nextEnd d.run with
    | none => exact g
    | some e =>
      simp only
      split
      · exact OkD.pasN last k (g.stp e)
      · exact g
theorem jobs_cnt (d : Dy) : (jobsOf d).length = mL d + d.dn.length := by
  have : ∀ r : List (Option Job), (r.filterMap fun o => o.map (·.1)).length = (ends r).length := by
    intro r
    induction r with
    | nil => rfl
    | cons o r ih =>
      cases o with
      | none => simpa [ends] using ih
      | some j => simp [ends] at ih ⊢; exact ih
  unfold jobsOf mL
  rw [List.length_append, List.length_append, List.length_map, List.length_map, this]
def nmsR (r : List (Option Job)) : List Str := r.filterMap fun o => o.map (·.1)
theorem bgR_names (now : Int) : ∀ (xs : List (Option Job)) (w : List Job), (nmsR (bgR now xs w).1 ++ (bgR now xs w).2.map (·.1)).Perm (nmsR xs ++ w.map (·.1))
  | [], w => .refl _
  | o :: xs, w => by
    have ih := bgR_names now xs (bg1 now o w).2
    have e1 : bgR now (o :: xs) w = ((bg1 now o w).1 :: (bgR now xs (bg1 now o w).2).1, (bgR now xs (bg1 now o w).2).2) := rfl
    rw [e1]
    have cn : ∀ (o : Option Job) (ys : List (Option Job)), nmsR (o :: ys) = nmsR [o] ++ nmsR ys := fun o ys => by cases o <;> rfl
    rw [cn (bg1 now o w).1, cn o xs, List.append_assoc, List.append_assoc]
    have same : bg1 now o w = (o, w) → (nmsR [(bg1 now o w).1] ++ (nmsR (bgR now xs (bg1 now o w).2).1 ++ (bgR now xs (bg1 now o w).2).2.map (·.1))).Perm (nmsR [o] ++ (nmsR xs ++ w.map (·.1))) := by
      intro hb
      rw [hb] at ih ⊢
      exact List.Perm.append_left _ ih
    cases o with
    | some j => exact same (by cases w <;> rfl)
    | none =>
      cases w with
      | nil => exact same rfl
      | cons a r =>
        have hk := sh_lt (w := a :: r) (by simp)
        have hp := erase_perm' hk
        have hg : (a :: r).getD (sh (a :: r)) j0 = (a :: r)[sh (a :: r)] := by
          rw [List.getD_eq_getElem?_getD, List.getElem?_eq_getElem hk]; rfl
        have e2 : nmsR [(bg1 now none (a :: r)).1] = [((a :: r)[sh (a :: r)]).1] := by
          show [((a :: r).getD (sh (a :: r)) j0).1] = _
          rw [hg]
        have e3 : (bg1 now none (a :: r)).2 = (a :: r).eraseIdx (sh (a :: r)) := rfl
        rw [e2]
        rw [e3] at ih ⊢
        refine (List.Perm.append_left _ ih).trans ?_
        show (((a :: r)[sh (a :: r)]).1 :: (nmsR xs ++ ((a :: r).eraseIdx (sh (a :: r))).map (·.1))).Perm (nmsR xs ++ (a :: r).map (·.1))
        refine List.perm_middle.symm.trans (List.Perm.append_left _ ?_)
        exact hp.map (·.1)
theorem beg_jobs (d : Dy) : (jobsOf (begD d)).Perm (jobsOf d) := by
  have h := bgR_names d.now d.run d.wt
  rw [← bg_R] at h
  exact List.Perm.append_right _ h
theorem at_names (m : Int) : ∀ r : List (Option Job), (nmsR (r.map fun o => if over m o then none else o) ++ ((r.filter (over m)).filterMap id).map (·.1)).Perm (nmsR r)
  | [] => .refl _
  | o :: r => by
    have ih := at_names m r
    have cn : ∀ (o : Option Job) (ys : List (Option Job)), nmsR (o :: ys) = nmsR [o] ++ nmsR ys := fun o ys => by cases o <;> rfl
    rw [List.map_cons, List.filter_cons, cn (if over m o then none else o), cn o r]
    cases o with
    | none =>
      have e : over m none = false := rfl
      rw [e]
      exact ih
    | some j =>
      by_cases h : j.2 ≤ m
      · have e : over m (some j) = true := decide_eq_true h
        rw [e]
        show (nmsR (r.map fun o => if over m o then none else o) ++ (j.1 :: ((r.filter (over m)).filterMap id).map (·.1))).Perm (j.1 :: nmsR r)
        exact List.perm_middle.trans (ih.cons _)
      · have e : over m (some j) = false := decide_eq_false h
        rw [e]
        show (j.1 :: (nmsR (r.map fun o => if over m o then none else o) ++ ((r.filter (over m)).filterMap id).map (·.1))).Perm (j.1 :: nmsR r)
        exact ih.cons _
theorem stp_jobs (d : Dy) (e : Int) : (jobsOf (stp d e)).Perm (jobsOf d) := by
  refine (beg_jobs _).trans ?_
  have h := at_names e d.run
  show (nmsR (d.run.map fun o => if over e o then none else o) ++ d.wt.map (·.1) ++ (d.dn ++ (d.run.filter (over e)).filterMap id).map (·.1)).Perm (nmsR d.run ++ d.wt.map (·.1) ++ d.dn.map (·.1))
  rw [List.map_append]
  generalize nmsR (d.run.map fun o => if over e o then none else o) = A at h
  generalize ((d.run.filter (over e)).filterMap id).map (·.1) = B at h
  generalize nmsR d.run = E at h
  generalize d.wt.map (·.1) = W
  generalize d.dn.map (·.1) = N
  have h1 : (A ++ W ++ (N ++ B)).Perm (A ++ W ++ (B ++ N)) := List.Perm.append_left _ List.perm_append_comm
  refine h1.trans ?_
  rw [← List.append_assoc, List.append_assoc A W B]
  refine List.Perm.append_right _ ?_
  refine (List.Perm.append_left _ List.perm_append_comm).trans ?_
  rw [← List.append_assoc]
  exact List.Perm.append_right _ h
theorem pasN_jobs (last : Int) : ∀ (k : Nat) (d : Dy), (jobsOf (pasN last k d)).Perm (jobsOf d)
  | 0, d => .refl _
  | k + 1, d => by
    unfold pasN
    cases hn : nextEnd d.run with
    | none => exact .refl _
    | some e =>
      simp only
      split
      · exact (pasN_jobs last k (stp d e)).trans (stp_jobs d e)
      · exact .refl _
/-- the state of the law's loops: the house at h, the generator at g; L: the names that came -/
structure St (μ : Mu) (g h : Nat) (x : List D) (d : Dy) (k : Nat) (L : List Str) : Prop where
  H : Hs μ g h x d k
  ok : OkD d
  gd : Gd d
  jb : (jobsOf d).Perm L
  lg : d.log.length ≤ 60 * k
theorem tok (t : Int) (h1 : 1 ≤ t) (h2 : t ≤ 1000) : okW (.inr t) := by
  have all : ((List.range 1001).all fun n => decide ((sW (.inr (n : Int))).length ≤ 12)) = true := by decide +kernel
  have := List.all_eq_true.mp all t.toNat (List.mem_range.mpr (by omega))
  rw [show ((t.toNat : Nat) : Int) = t by omega] at this
  refine ⟨of_decide_eq_true this, ?_⟩
  have := sz_log (a := 10) (i := t) (by unfold sz; omega)
  show t.natAbs.log2 < 1920
  omega
section
variable {μ : Mu} {n g h k : Nat} {x : List D} {d : Dy} {Q : D → Mu → Prop} {L : List Str}
theorem St.gen {y : List D} (S : St μ g h x d k L) : St (μ.set g (.lst y)) g h y d k L := ⟨S.H.gen, S.ok, S.gd, S.jb, S.lg⟩
theorem come_turn {nm : Str} {t : Int} (S : St μ g h x d k L) (hk : k ≤ 20) (hn : NmOk nm) (hnew : nm ∉ L) (hL : L.length ≤ 20) (t1 : 1 ≤ t) (t2 : t ≤ 1000)
    (hq : ∀ μ' d', St μ' g h x d' (k + 1) (L ++ [nm]) → Q .non μ') : R.To (phi G.cs (fbs G.toGi) (n + 6) 40 [.loc h, .str nm, .int t] μ) Q := by
  have hlen := S.jb.length_eq
  have hcnt := jobs_cnt d
  have hlg := S.lg
  refine come_to S.ok S.H (by omega) hn (fun z => hnew (S.jb.subset z)) (by omega) (by omega) t1 t2 (tok t t1 t2) (by omega) fun μ' s hs H' => ?_
  have ok1 : OkD { d with wt := d.wt ++ [(nm, t)], log := s } := S.ok.add hn.ok (by omega)
  refine hq μ' _ ⟨H', ok1.beg, Gd.beg (d := { d with wt := d.wt ++ [(nm, t)], log := s }) S.gd.ne S.gd.ge fun j hj => ?_, (beg_jobs _).trans ?_, ?_⟩
  · rcases List.mem_append.mp hj with z | z
    · exact S.gd.tm j z
    · have : j = (nm, t) := by simpa using z
      rw [this]; show (0 : Int) ≤ t; omega
  · show (nmsR d.run ++ (d.wt ++ [(nm, t)]).map (·.1) ++ d.dn.map (·.1)).Perm (L ++ [nm])
    have hj : (nmsR d.run ++ d.wt.map (·.1) ++ d.dn.map (·.1)).Perm L := S.jb
    rw [List.map_append]
    refine List.Perm.trans ?_ (List.Perm.append_right [nm] hj)
    rw [← List.append_assoc]
    show ((nmsR d.run ++ d.wt.map (·.1)) ++ [nm] ++ d.dn.map (·.1)).Perm _
    rw [List.append_assoc _ [nm], List.append_assoc (nmsR d.run ++ d.wt.map (·.1)) (d.dn.map (·.1))]
    exact List.Perm.append_left _ List.perm_append_comm
  · show s.length ≤ 60 * (k + 1)
    omega
theorem wait_turn {a : Int} (S : St μ g h x d k L) (hk : k ≤ 20) (h1 : 1 ≤ a) (h2 : a ≤ 1000)
    (hq : ∀ μ' d', St μ' g h x d' (k + 1) L → (fin d').dn = (fin d).dn → Q .non μ') : R.To (phi G.cs (fbs G.toGi) (n + 6) 41 [.loc h, .int a] μ) Q := by
  have hlg := S.lg
  refine wait_to S.ok S.H (by omega) h1 h2 (tok a h1 h2) (by omega) fun μ' s hs H' => ?_
  refine hq μ' _ ⟨H', (S.ok.pasN _ _).upd _ _, S.gd.wait _ _, ?_, ?_⟩ (fin_wait _ _ _ _)
  · exact (pasN_jobs _ _ _).trans S.jb
  · show s.length ≤ 60 * (k + 1)
    omega
theorem St.day0 {m : Nat} (h1 : 1 ≤ m) (h8 : m ≤ 8) (H : Hs μ g h x (day0 m) 0) : St μ g h x (day0 m) 0 [] := by
  have e : ∀ m, ends (List.replicate m (none : Option Job)) = [] ∧ nmsR (List.replicate m (none : Option Job)) = [] := by
    intro m
    induction m with
    | zero => exact ⟨rfl, rfl⟩
    | succ m ih => rw [List.replicate_succ]; exact ih
  have hr : ∀ j, some j ∉ List.replicate m (none : Option Job) := fun j hj => by
    have := List.eq_of_mem_replicate hj
    cases this
  refine ⟨H, ⟨?_, ?_, fun j hj => (by cases hj), fun j hj => (by cases hj), fun j hj => absurd hj (hr j)⟩, ⟨fun z => ?_, fun j hj => absurd hj (hr j), fun z => absurd rfl z, fun j hj => (by cases hj)⟩, ?_, by show 0 ≤ _; omega⟩
  · show (List.replicate m none).length ≤ 8
    rw [List.length_replicate]; exact h8
  · show (ends (List.replicate m none)).length + 0 + 0 ≤ 100
    rw [(e m).1]; decide
  · have : (List.replicate m (none : Option Job)).length = 0 := by rw [show List.replicate m none = [] from z]; rfl
    rw [List.length_replicate] at this
    omega
  · show (nmsR (List.replicate m none) ++ [] ++ []).Perm []
    rw [(e m).2]; exact .refl _
end
end Lk89

namespace Lk89
open PySem PySem.Spec PyProof.Rows L2 Z
local macro_rules | `(tactic| and_intros) => `(tactic| simp only [denS, denR, denE, denEs, denT, denTs, denBop, denN, denO, denC, denW, Exs.isNil, tos_seq, tos_bindR, tos_nx, tos_rt, tos_bk, tos_ct, to_bind, to_noex, to_ok, to_some, to_ite, to_fit, to_map, to_obind, tob_nil, var_z, var_o, var_s, set_z, set_s, Option.map_some, Option.bind_some, b_add, b_sub, b_mul, b_div, b_mod, b_pow, b_adds, b_addl, b_mull, c_lt, c_le, c_gt, c_ge, c_is, c_isn, c_eq, c_ne, e_int, t_bl, t_int, t_lst, t_non, i_tup, i_lst, i_loc, at0, at1, at2, l_lst, m_lst, l_scr, f_int, f_len, f_lens, f_lent, f_max2, f_min2, bt_bits, bd_bits, g_rng1, g_rng2, List.set_cons_zero, List.set_cons_succ, wipeR, s_lst, ld_lst, ok_lst, ok_tup, ok_int, ok_str, ok_bl, ok_non, is_ll, is_tt, is_lt, is_tl, is_li, is_ti, is_si, is_bi, is_ii, is_ss, is_ls, is_ts, f_isiL, f_lenT, f_srt, f_srtP, f_all, f_sumI, f_min1, f_max1, f_tup, bt_idx, bd_idx, g_rng3, g_lrg1, e_bl, rev_map, List.length_map, Bool.or_true, Bool.or_false,    Option.isNone_some, Option.isNone_none, Bool.not_false, Bool.not_true,  List.map_cons, List.map_nil, List.length_cons, List.length_nil, List.replicate, List.cons_append, List.nil_append])
local macro_rules | `(tactic| trivial) => `(tactic| first | exact ⟨rfl, rfl⟩ | exact ⟨True.intro, True.intro⟩ | exact ⟨rfl, True.intro⟩ | exact ⟨True.intro, rfl⟩ | exact True.intro | rfl)
local macro_rules | `(tactic| subst_eqs) => `(tactic| (refine tob_cons ?_; and_intros))

section
variable {μ : Mu} {n : Nat} {Q : D → Mu → Prop} {i j lo hi : Int} {T U : List Int}
theorem whole9 (hq : Q (.bl true) μ) : R.To (phi G.cs (fbs G.toGi) (n + 1) 0 [.int i] μ) Q := by
  refine to_phi fb0 rfl ?_
  unfold ir0
  subst_eqs
  first | exact hq | exact ⟨True.intro, True.intro, hq⟩
theorem count9 (h0 : 0 ≤ i) (hq : Q (.bl true) μ) : R.To (phi G.cs (fbs G.toGi) (n + 2) 1 [.int i] μ) Q := by
  refine to_phi fb1 rfl ?_
  unfold ir1
  subst_eqs
  refine whole9 ?_
  and_intros
  rw [decide_eq_true h0]
  exact hq
/-- counts within bounds -/
def Cn (lo hi : Int) (T : List Int) : Prop := T.length ≤ 1000 ∧ ∀ t ∈ T, lo ≤ t ∧ t ≤ hi
theorem counts9 (h0 : 0 ≤ lo) (h : Cn lo hi T) (hq : Q (.bl true) μ) : R.To (phi G.cs (fbs G.toGi) (n + 3) 3 [.lst (T.map .int), .int (T.length : Nat), .int lo, .int hi] μ) Q := by
  refine to_phi fb3 rfl ?_
  unfold ir3
  subst_eqs
  refine ⟨by trivial, ?_⟩
  and_intros
  simp only [decide_true]
  and_intros
  subst_eqs
  refine cmp_flt .int (fun _ => false) .int (fun y hy => ⟨[.val (.lst (T.map .int)), .val (.int (T.length : Nat)), .val (.int lo), .val (.int hi), .val (.int y)], rfl, ?_, fun h => by cases h⟩) (by have := h.1; omega) ?_
  · have h1 := h.2 y hy
    and_intros
    refine count9 (by omega) ?_
    and_intros
    rw [decide_eq_true h1.1]
    and_intros
    rw [decide_eq_true h1.2]
    and_intros
    trivial
  · rw [List.filter_eq_nil_iff.mpr fun _ _ => by simp]
    and_intros
    refine ⟨by decide, ?_⟩
    rw [eq_nil fun x hx => by cases hx]
    exact hq
/-- times -/
structure Tm (T : List Int) : Prop where
  l1 : 1 ≤ T.length
  l2 : T.length ≤ 12
  c : ∀ t ∈ T, 1 ≤ t ∧ t ≤ 1000
theorem Tm.cn (h : Tm T) : Cn 1 1000 T := ⟨by have := h.l2; omega, h.c⟩
theorem times9 (h : Tm T) (hq : Q (.bl true) μ) : R.To (phi G.cs (fbs G.toGi) (n + 4) 4 [.lst (T.map .int)] μ) Q := by
  have h1 := h.l1
  have h2 := h.l2
  refine to_phi fb4 rfl ?_
  unfold ir4
  subst_eqs
  refine ⟨by trivial, ?_⟩
  and_intros
  rw [decide_eq_true (show (1 : Int) ≤ (T.length : Nat) by omega)]
  and_intros
  rw [decide_eq_true (show ((T.length : Nat) : Int) ≤ 12 by omega)]
  and_intros
  refine counts9 (by omega) h.cn ?_
  exact hq
theorem ctimes9 (h : Tm T) (hq : Q .non μ) : R.To (phi G.cs (fbs G.toGi) (n + 5) 5 [.lst (T.map .int)] μ) Q := by
  refine to_phi fb5 rfl ?_
  unfold ir5
  subst_eqs
  refine times9 h ?_
  and_intros
  exact hq
theorem weights9 (h : Cn 0 1000 U) (hl : U.length = T.length) (hq : Q .non μ) : R.To (phi G.cs (fbs G.toGi) (n + 5) 7 [.int (T.length : Nat), .lst (U.map .int)] μ) Q := by
  refine to_phi fb7 rfl ?_
  unfold ir7
  subst_eqs
  refine to_phi fb6 rfl ?_
  unfold ir6
  subst_eqs
  rw [← hl]
  refine counts9 (by omega) h ?_
  and_intros
  exact hq
theorem dues9 (h : Cn 0 100000 U) (hl : U.length = T.length) (hq : Q .non μ) : R.To (phi G.cs (fbs G.toGi) (n + 5) 9 [.int (T.length : Nat), .lst (U.map .int)] μ) Q := by
  refine to_phi fb9 rfl ?_
  unfold ir9
  subst_eqs
  refine to_phi fb8 rfl ?_
  unfold ir8
  subst_eqs
  rw [← hl]
  refine counts9 (by omega) h ?_
  and_intros
  exact hq
theorem cmach9 (h1 : 1 ≤ i) (h2 : i ≤ 8) (hq : Q .non μ) : R.To (phi G.cs (fbs G.toGi) (n + 3) 12 [.int i] μ) Q := by
  refine to_phi fb12 rfl ?_
  unfold ir12
  subst_eqs
  refine machs_to h1 h2 ?_
  and_intros
  exact hq
theorem size9 (h1 : 1 ≤ i) (h2 : i ≤ 12) (hq : Q .non μ) : R.To (phi G.cs (fbs G.toGi) (n + 3) 47 [.int i] μ) Q := by
  refine to_phi fb47 rfl ?_
  unfold ir47
  subst_eqs
  refine to_phi fb46 rfl ?_
  unfold ir46
  subst_eqs
  refine whole9 ?_
  and_intros
  rw [decide_eq_true h1]
  and_intros
  rw [decide_eq_true h2]
  and_intros
  exact hq
theorem rate9 (h1 : 1 ≤ i) (h2 : i ≤ 1000) (hq : Q .non μ) : R.To (phi G.cs (fbs G.toGi) (n + 3) 49 [.int i] μ) Q := by
  refine to_phi fb49 rfl ?_
  unfold ir49
  subst_eqs
  refine count9 (by omega) ?_
  and_intros
  rw [decide_eq_true h1]
  and_intros
  rw [decide_eq_true h2]
  and_intros
  exact hq
theorem rates9 (h : Tm T) (h1 : 1 ≤ i) (h2 : i ≤ 1000) (h3 : 1 ≤ j) (h4 : j ≤ 1000) (hq : Q .non μ) : R.To (phi G.cs (fbs G.toGi) (n + 6) 50 [.lst (T.map .int), .int i, .int j] μ) Q := by
  refine to_phi fb50 rfl ?_
  unfold ir50
  subst_eqs
  refine ctimes9 h ?_
  and_intros
  subst_eqs
  refine rate9 h1 h2 ?_
  and_intros
  subst_eqs
  refine rate9 h3 h4 ?_
  and_intros
  exact hq
theorem jobs9 (h : Tm T) (hU : Cn 0 1000 U) (hl : U.length = T.length) (hq : Q .non μ) : R.To (phi G.cs (fbs G.toGi) (n + 6) 57 [.lst (T.map .int), .lst (U.map .int)] μ) Q := by
  refine to_phi fb57 rfl ?_
  unfold ir57
  subst_eqs
  refine ctimes9 h ?_
  and_intros
  subst_eqs
  refine weights9 hU hl ?_
  and_intros
  exact hq
theorem room9 (h : Tm T) (h1 : 1 ≤ i) (h2 : i ≤ (T.length : Nat)) (hq : Q .non μ) : R.To (phi G.cs (fbs G.toGi) (n + 6) 65 [.lst (T.map .int), .int i] μ) Q := by
  have h3 := h.l2
  refine to_phi fb65 rfl ?_
  unfold ir65
  subst_eqs
  refine ctimes9 h ?_
  and_intros
  subst_eqs
  refine size9 h1 (by omega) ?_
  and_intros
  subst_eqs
  rw [decide_eq_false (show ¬ ((T.length : Nat) : Int) < i by omega)]
  and_intros
  exact hq
end
end Lk89

namespace Lk89
open Z
/-! ### least sums by places -/
def lsum (m : Nat) : Nat → List Int → Int
  | _, [] => 0
  | k, r :: rs => r * ((k / m + 1 : Nat) : Int) + lsum m (k + 1) rs
def au (m : Nat) : List Int → Int
  | [] => 0
  | s :: S => s * ((S.length / m + 1 : Nat) : Int) + au m S
theorem lsum_app (m : Nat) (y : Int) : ∀ (xs : List Int) (k : Nat), lsum m k (xs ++ [y]) = lsum m k xs + y * (((k + xs.length) / m + 1 : Nat) : Int)
  | [], k => by simp [lsum]
  | x :: xs, k => by
    show x * _ + lsum m (k + 1) (xs ++ [y]) = x * _ + lsum m (k + 1) xs + _
    rw [lsum_app m y xs (k + 1), List.length_cons, show k + 1 + xs.length = k + (xs.length + 1) by omega]
    omega
theorem lsum_rev (m : Nat) : ∀ S : List Int, lsum m 0 S.reverse = au m S
  | [] => rfl
  | s :: S => by
    rw [List.reverse_cons, lsum_app, lsum_rev m S, List.length_reverse, Nat.zero_add]
    show _ = s * _ + au m S
    omega
/-- machines that wait in a row -/
def gq : List Int → List Int → Int
  | _, [] => 0
  | [], _ :: _ => 0
  | f :: F, s :: S => f + s + gq (F ++ [f + s]) S
theorem gq_min : ∀ (S F : List Int) (f : Int), (f :: F).Pairwise (· ≤ ·) → S.Pairwise (· ≤ ·) → (∀ s ∈ S, 0 ≤ s) → (∀ s S', S = s :: S' → ∀ x ∈ F, x ≤ f + s) → IsMin (f :: F) S (gq (f :: F) S)
  | [], F, f, _, _, _, _ => IsMin.nil _
  | s :: S, F, f, hF, hS, h0, hm => by
    obtain ⟨f1, f2⟩ := List.pairwise_cons.mp hF
    obtain ⟨s1, s2⟩ := List.pairwise_cons.mp hS
    have hs0 := h0 s (List.mem_cons_self ..)
    have hx := hm s S rfl
    have ih : IsMin (F ++ [f + s]) S (gq (F ++ [f + s]) S) := by
      cases F with
      | nil => exact gq_min S [] (f + s) (List.pairwise_singleton _ _) s2 (fun x h => h0 x (List.mem_cons_of_mem _ h)) (fun _ _ _ x h => by cases h)
      | cons f' F' =>
        have hf' := f1 f' (List.mem_cons_self ..)
        refine gq_min S (F' ++ [f + s]) f' ?_ s2 (fun x h => h0 x (List.mem_cons_of_mem _ h)) (fun s' S' e x h => ?_)
        · have : (f' :: F' ++ [f + s]).Pairwise (· ≤ ·) := List.pairwise_append.mpr ⟨f2, List.pairwise_singleton _ _, fun a ha b hb => by
            have : b = f + s := by simpa using hb
            rw [this]; exact hx a ha⟩
          exact this
        · have hs' := s1 s' (by rw [e]; exact List.mem_cons_self ..)
          rcases List.mem_append.mp h with z | z
          · have := hx x (List.mem_cons_of_mem _ z)
            omega
          · have : x = f + s := by simpa using z
            omega
    have e : gq (f :: F) (s :: S) = f + s + gq (F ++ [f + s]) S := rfl
    rw [e]
    refine IsMin.step (F1 := F) (T1 := S) (ih.perm ?_ (.refl _)) (.refl _) (fun x h => ?_) (.refl _) (fun x h => ?_) h0
    · exact List.perm_append_comm
    · rcases List.mem_cons.mp h with rfl | h
      · exact Int.le_refl _
      · exact f1 x h
    · rcases List.mem_cons.mp h with rfl | h
      · exact Int.le_refl _
      · exact s1 x h
def fw (m : Nat) : Nat → List Int → Int
  | _, [] => 0
  | c, f :: F => f * ((c / m : Nat) : Int) + fw m (c - 1) F
theorem fw_zero (m : Nat) : ∀ (F : List Int) (c : Nat), c < m → fw m c F = 0
  | [], _, _ => rfl
  | f :: F, c, h => by
    show f * _ + fw m (c - 1) F = 0
    rw [fw_zero m F (c - 1) (by omega), Nat.div_eq_of_lt h]; simp
theorem fw_app (m : Nat) (y : Int) : ∀ (F : List Int) (c : Nat), F.length ≤ c → fw m c (F ++ [y]) = fw m c F + y * (((c - F.length) / m : Nat) : Int)
  | [], c, _ => by simp [fw]
  | f :: F, c, h => by
    have h' : F.length + 1 ≤ c := h
    show f * _ + fw m (c - 1) (F ++ [y]) = f * _ + fw m (c - 1) F + _
    rw [fw_app m y F (c - 1) (by omega), List.length_cons, show c - 1 - F.length = c - (F.length + 1) by omega]
    omega
theorem gq_val {m : Nat} (hm : 0 < m) : ∀ (S F : List Int), F.length = m → gq F S = au m S + fw m (S.length + m - 1) F
  | [], F, h => by
    show (0 : Int) = 0 + _
    rw [fw_zero m F _ (by simp; omega)]; rfl
  | s :: S, [], h => by simp at h; omega
  | s :: S, f :: F, h => by
    have hl : F.length + 1 = m := h
    have e : gq (f :: F) (s :: S) = f + s + gq (F ++ [f + s]) S := rfl
    rw [e, gq_val hm S (F ++ [f + s]) (by simp; omega), fw_app m (f + s) F _ (by omega)]
    show _ = s * ((S.length / m + 1 : Nat) : Int) + au m S + (f * ((((S.length + 1) + m - 1) / m : Nat) : Int) + fw m (S.length + 1 + m - 1 - 1) F)
    rw [show S.length + m - 1 - F.length = S.length by omega, show S.length + 1 + m - 1 - 1 = S.length + m - 1 by omega, show S.length + 1 + m - 1 = S.length + m by omega, Nat.add_div_right _ hm]
    generalize S.length / m = q
    rw [Int.add_mul]
    have e1 : f * ((q.succ : Nat) : Int) = f * (q : Int) + f := by
      rw [show ((q.succ : Nat) : Int) = (q : Int) + 1 by omega, Int.mul_add, Int.mul_one]
    have e2 : s * ((q + 1 : Nat) : Int) = s * (q : Int) + s := by
      rw [show ((q + 1 : Nat) : Int) = (q : Int) + 1 by omega, Int.mul_add, Int.mul_one]
    rw [e1, e2]
    omega
theorem fw_rep (m k : Nat) : ∀ c, fw m c (List.replicate k 0) = 0 := by
  induction k with
  | zero => intro c; rfl
  | succ k ih =>
    intro c
    rw [List.replicate_succ]
    show 0 * _ + fw m (c - 1) _ = 0
    rw [ih]; simp
theorem min_zeros {m : Nat} (hm : 0 < m) {S : List Int} (hS : S.Pairwise (· ≤ ·)) (h0 : ∀ s ∈ S, 0 ≤ s) : IsMin (List.replicate m 0) S (au m S) := by
  obtain ⟨k, rfl⟩ : ∃ k, m = k + 1 := ⟨m - 1, by omega⟩
  have h := gq_min S (List.replicate k 0) 0 ?_ hS h0 (fun s S' e x hx => ?_)
  · have e : (0 :: List.replicate k 0 : List Int) = List.replicate (k + 1) 0 := by rw [List.replicate_succ]
    rw [e, gq_val (m := k + 1) hm S _ (by simp), fw_rep, Int.add_zero] at h
    exact h
  · refine List.pairwise_cons.mpr ⟨fun x hx => ?_, ?_⟩
    · rw [List.eq_of_mem_replicate hx]; exact Int.le_refl _
    · exact List.pairwise_replicate.mpr (.inr (Int.le_refl _))
  · rw [List.eq_of_mem_replicate hx]
    have := h0 s (by rw [e]; exact List.mem_cons_self ..)
    omega
theorem min_one {S : List Int} (f : Int) (hS : S.Pairwise (· ≤ ·)) (h0 : ∀ s ∈ S, 0 ≤ s) : IsMin [f] S (au 1 S + f * (S.length : Nat)) := by
  have h := gq_min S [] f (List.pairwise_singleton _ _) hS h0 (fun _ _ _ x hx => by cases hx)
  rw [gq_val (m := 1) (by omega) S [f] rfl] at h
  have e : fw 1 (S.length + 1 - 1) [f] = f * (S.length : Nat) := by
    show f * (((S.length + 1 - 1) / 1 : Nat) : Int) + 0 = _
    rw [Nat.add_sub_cancel, Nat.div_one, Int.add_zero]
  rw [e] at h
  exact h
/-! ### pairs -/
def mn (a b : Int) : Int := if b < a then b else a
def msum (t : Int) (T : List Int) : Int := (T.map (mn t)).sum
def pm : List Int → Int
  | [] => 0
  | t :: T => t + msum t T + pm T
theorem mn_comm (a b : Int) : mn a b = mn b a := by unfold mn; split <;> split <;> omega
theorem perm_sum : ∀ {S T : List Int}, S.Perm T → S.sum = T.sum := fun h => by
  induction h with
  | nil => rfl
  | cons x h ih => simp only [List.sum_cons, ih]
  | swap x y l => simp only [List.sum_cons]; omega
  | trans _ _ i j => exact i.trans j
theorem msum_perm (t : Int) {S T : List Int} (h : S.Perm T) : msum t S = msum t T := perm_sum (h.map (mn t))
theorem pm_perm : ∀ {S T : List Int}, S.Perm T → pm S = pm T := fun h => by
  induction h with
  | nil => rfl
  | cons x h ih =>
    show x + msum x _ + pm _ = x + msum x _ + pm _
    rw [ih, msum_perm x h]
  | swap x y l =>
    show y + msum y (x :: l) + (x + msum x l + pm l) = x + msum x (y :: l) + (y + msum y l + pm l)
    unfold msum
    simp only [List.map_cons, List.sum_cons]
    rw [mn_comm y x]; omega
  | trans _ _ i j => exact i.trans j
theorem msum_le (s : Int) : ∀ {S : List Int}, (∀ x ∈ S, s ≤ x) → msum s S = s * (S.length : Nat)
  | [], _ => by simp [msum]
  | x :: S, h => by
    have ih := msum_le s (S := S) fun y hy => h y (List.mem_cons_of_mem _ hy)
    have := h x (List.mem_cons_self ..)
    have e : msum s (x :: S) = mn s x + msum s S := rfl
    rw [e, ih, List.length_cons, show ((S.length + 1 : Nat) : Int) = (S.length : Int) + 1 by omega, Int.mul_add, Int.mul_one]
    unfold mn
    split <;> omega
theorem pm_au : ∀ {S : List Int}, S.Pairwise (· ≤ ·) → pm S = au 1 S
  | [], _ => rfl
  | s :: S, h => by
    obtain ⟨h1, h2⟩ := List.pairwise_cons.mp h
    show s + msum s S + pm S = s * ((S.length / 1 + 1 : Nat) : Int) + au 1 S
    rw [pm_au h2, msum_le s h1, Nat.div_one, show ((S.length + 1 : Nat) : Int) = (S.length : Int) + 1 by omega, Int.mul_add, Int.mul_one]
    omega
/-! ### rooms -/
def blk (r : Nat) : Nat → List Int → Int
  | 0, _ => 0
  | _ + 1, [] => 0
  | k + 1, x :: xs => x + blk r k (xs.drop (r - 1))
theorem blk_more (r : Nat) : ∀ (k l : Nat) (xs : List Int), xs.length ≤ k → xs.length ≤ l → blk r k xs = blk r l xs
  | 0, l, xs, hk, _ => by
    have : xs = [] := List.length_eq_zero_iff.mp (by omega)
    subst this
    cases l <;> rfl
  | k + 1, l, [], _, _ => by cases l <;> rfl
  | k + 1, l, x :: xs, hk, hl => by
    have hk' : xs.length + 1 ≤ k + 1 := hk
    have hl' : xs.length + 1 ≤ l := hl
    cases l with
    | zero => omega
    | succ l =>
      show x + _ = x + _
      rw [blk_more r k l (xs.drop (r - 1)) (by rw [List.length_drop]; omega) (by rw [List.length_drop]; omega)]
theorem blk_one : ∀ (k : Nat) (xs : List Int), xs.length ≤ k → blk 1 k xs = xs.sum
  | 0, xs, h => by
    have : xs = [] := List.length_eq_zero_iff.mp (by omega)
    subst this; rfl
  | k + 1, [], _ => rfl
  | k + 1, x :: xs, h => by
    have h' : xs.length + 1 ≤ k + 1 := h
    show x + blk 1 k (xs.drop 0) = _
    rw [List.drop_zero, blk_one k xs (by omega), List.sum_cons]
theorem blk_all {r k : Nat} {x : Int} {xs : List Int} (h : xs.length ≤ r - 1) : blk r (k + 1) (x :: xs) = x := by
  show x + blk r k (xs.drop (r - 1)) = x
  rw [List.drop_of_length_le h]
  cases k <;> simp [blk]
theorem blk_nonneg (r : Nat) : ∀ (k : Nat) (xs : List Int), (∀ x ∈ xs, 0 ≤ x) → 0 ≤ blk r k xs
  | 0, _, _ => Int.le_refl _
  | _ + 1, [], _ => Int.le_refl _
  | k + 1, x :: xs, h => by
    have h1 := h x (List.mem_cons_self ..)
    have h2 := blk_nonneg r k (xs.drop (r - 1)) fun y hy => h y (List.mem_cons_of_mem _ (List.mem_of_mem_drop hy))
    show 0 ≤ x + blk r k (xs.drop (r - 1))
    omega
theorem blk_mono (r : Nat) (hr : 1 ≤ r) : ∀ (k : Nat) (ys xs : List Int), ys.length ≤ xs.length → (∀ i, ys.getD i 0 ≤ xs.getD i 0) → (∀ i j, i ≤ j → ys.getD j 0 ≤ ys.getD i 0) → (∀ x ∈ xs, 0 ≤ x) → blk (r + 1) k ys ≤ blk r k xs
  | 0, _, _, _, _, _, _ => Int.le_refl _
  | k + 1, [], xs, _, _, _, h => blk_nonneg r (k + 1) xs h
  | k + 1, y :: ys, [], hl, _, _, _ => by simp at hl
  | k + 1, y :: ys, x :: xs, hl, hd, hs, h0 => by
    have hl' : ys.length + 1 ≤ xs.length + 1 := hl
    have h1 := hd 0
    have h1 : y ≤ x := h1
    have gd : ∀ (l : List Int) (n i : Nat), (l.drop n).getD i 0 = l.getD (n + i) 0 := fun l n i => by
      rw [List.getD_eq_getElem?_getD, List.getD_eq_getElem?_getD, List.getElem?_drop]
    have ih := blk_mono r hr k (ys.drop r) (xs.drop (r - 1)) (by rw [List.length_drop, List.length_drop]; omega) (fun i => by
      rw [gd, gd]
      have a := hs (r - 1 + i + 1) (r + i + 1) (by omega)
      have b := hd (r - 1 + i + 1)
      have a' : ys.getD (r + i) 0 ≤ ys.getD (r - 1 + i) 0 := a
      have b' : ys.getD (r - 1 + i) 0 ≤ xs.getD (r - 1 + i) 0 := b
      omega) (fun i j hij => by
      rw [gd, gd]
      exact hs (r + i + 1) (r + j + 1) (by omega)) (fun z hz => h0 z (List.mem_cons_of_mem _ (List.mem_of_mem_drop hz)))
    show y + blk (r + 1) k (ys.drop (r + 1 - 1)) ≤ x + blk r k (xs.drop (r - 1))
    rw [Nat.add_sub_cancel]
    omega
end Lk89
namespace Lk89
open Z
/-! ### batches, weighed -/
abbrev Tw : Type := Int × Int
def wsum (P : List Tw) : Int := (P.map (·.2)).sum
inductive Dw : List Tw → Int → Prop where
  | nil : Dw [] 0
  | cons (A : List Tw) (a : Tw) (B : List Tw) (v : Int) (h : Dw B v) : Dw (A ++ a :: B) (a.1 * wsum (A ++ a :: B) + v)
def IsDw (P : List Tw) (v : Int) : Prop := Dw P v ∧ ∀ v', Dw P v' → v ≤ v'
def tw (P : List Tw) : Int := (P.map fun p => p.2 * p.1).sum
theorem wsum_app (A B : List Tw) : wsum (A ++ B) = wsum A + wsum B := by unfold wsum; rw [List.map_append, List.sum_append]
theorem tw_app (A B : List Tw) : tw (A ++ B) = tw A + tw B := by unfold tw; rw [List.map_append, List.sum_append]
theorem wsum_pos : ∀ {P : List Tw}, (∀ p ∈ P, 0 ≤ p.2) → 0 ≤ wsum P
  | [], _ => Int.le_refl _
  | p :: P, h => by
    have h1 := h p (List.mem_cons_self ..)
    have h2 := wsum_pos (P := P) fun q hq => h q (List.mem_cons_of_mem _ hq)
    show 0 ≤ p.2 + wsum P
    omega
theorem tw_le (t : Int) : ∀ {P : List Tw}, (∀ p ∈ P, 0 ≤ p.2 ∧ p.1 ≤ t) → tw P ≤ t * wsum P
  | [], _ => by simp [tw, wsum]
  | p :: P, h => by
    have h1 := h p (List.mem_cons_self ..)
    have h2 := tw_le t (P := P) fun q hq => h q (List.mem_cons_of_mem _ hq)
    have h3 := Int.mul_le_mul_of_nonneg_left h1.2 h1.1
    show p.2 * p.1 + tw P ≤ t * (p.2 + wsum P)
    rw [Int.mul_add, Int.mul_comm t p.2]
    omega
theorem dw_low : ∀ {P : List Tw} {v : Int}, Dw P v → P.Pairwise (fun p q => p.1 ≤ q.1) → (∀ p ∈ P, 0 ≤ p.1 ∧ 0 ≤ p.2) → tw P ≤ v := by
  intro P v h
  induction h with
  | nil => exact fun _ _ => Int.le_refl _
  | cons A a B v h ih =>
    intro hs h0
    obtain ⟨_, s2, s3⟩ := List.pairwise_append.mp hs
    obtain ⟨s4, s5⟩ := List.pairwise_cons.mp s2
    have hB := ih s5 fun p hp => h0 p (List.mem_append_right _ (List.mem_cons_of_mem _ hp))
    have hA := tw_le a.1 (P := A) fun p hp => ⟨(h0 p (List.mem_append_left _ hp)).2, s3 p hp a (List.mem_cons_self ..)⟩
    have ha := h0 a (List.mem_append_right _ (List.mem_cons_self ..))
    have hwB := wsum_pos (P := B) fun p hp => (h0 p (List.mem_append_right _ (List.mem_cons_of_mem _ hp))).2
    have hp := Int.mul_nonneg ha.1 hwB
    rw [tw_app, wsum_app]
    show tw A + (a.2 * a.1 + tw B) ≤ a.1 * (wsum A + (a.2 + wsum B)) + v
    rw [Int.mul_add, Int.mul_add, Int.mul_comm a.2 a.1]
    omega
theorem dw_tail {p : Tw} {Q : List Tw} {v : Int} (h : Dw (p :: Q) v) (h0 : ∀ q ∈ p :: Q, 0 ≤ q.1 ∧ 0 ≤ q.2) : ∃ v', v' ≤ v ∧ Dw Q v' := by
  generalize hP : p :: Q = P at h
  cases h with
  | nil => cases hP
  | cons A a B v h =>
    cases A with
    | nil =>
      have e : p = a ∧ Q = B := by simpa using hP
      obtain ⟨rfl, rfl⟩ := e
      refine ⟨v, ?_, h⟩
      have hw := wsum_pos (P := p :: Q) fun q hq => (h0 q hq).2
      have := Int.mul_nonneg (h0 p (List.mem_cons_self ..)).1 hw
      show v ≤ p.1 * wsum (p :: Q) + v
      omega
    | cons a0 A =>
      have e : p = a0 ∧ Q = A ++ a :: B := by simpa using hP
      obtain ⟨rfl, rfl⟩ := e
      refine ⟨_, ?_, .cons A a B v h⟩
      have ha := h0 a (List.mem_cons_of_mem _ (List.mem_append_right _ (List.mem_cons_self ..)))
      have hp := h0 p (List.mem_cons_self ..)
      have := Int.mul_nonneg ha.1 hp.2
      show _ ≤ a.1 * (p.2 + wsum (A ++ a :: B)) + v
      rw [Int.mul_add]
      omega
theorem dw_drop : ∀ (X : List Tw) {Y : List Tw} {v : Int}, Dw (X ++ Y) v → (∀ q ∈ X ++ Y, 0 ≤ q.1 ∧ 0 ≤ q.2) → ∃ v', v' ≤ v ∧ Dw Y v'
  | [], Y, v, h, _ => ⟨v, Int.le_refl _, h⟩
  | x :: X, Y, v, h, h0 => by
    obtain ⟨v1, e1, h1⟩ := dw_tail h h0
    obtain ⟨v2, e2, h2⟩ := dw_drop X h1 fun q hq => h0 q (List.mem_cons_of_mem _ hq)
    exact ⟨v2, by omega, h2⟩
def mw (x y : Tw) : Int := if y.2 * x.1 < x.2 * y.1 then y.2 * x.1 else x.2 * y.1
/-- the sum over jobs and pairs -/
def fm : List Tw → Int
  | [] => 0
  | x :: P => x.2 * x.1 + (P.map (mw x)).sum + fm P
theorem mw_comm (x y : Tw) : mw x y = mw y x := by unfold mw; split <;> split <;> omega
theorem fm_perm : ∀ {S T : List Tw}, S.Perm T → fm S = fm T := fun h => by
  induction h with
  | nil => rfl
  | cons x h ih =>
    show x.2 * x.1 + (List.map (mw x) _).sum + fm _ = x.2 * x.1 + (List.map (mw x) _).sum + fm _
    rw [ih, perm_sum (h.map (mw x))]
  | swap x y l =>
    show y.2 * y.1 + ((x :: l).map (mw y)).sum + (x.2 * x.1 + (l.map (mw x)).sum + fm l) = x.2 * x.1 + ((y :: l).map (mw x)).sum + (y.2 * y.1 + (l.map (mw y)).sum + fm l)
    simp only [List.map_cons, List.sum_cons]
    rw [mw_comm y x]; omega
  | trans _ _ i j => exact i.trans j
/-- a job of the greatest ratio -/
theorem best_ratio : ∀ {P : List Tw}, P ≠ [] → (∀ p ∈ P, 0 < p.1 ∧ 0 ≤ p.2) → ∃ x ∈ P, ∀ y ∈ P, y.2 * x.1 ≤ x.2 * y.1
  | [], h, _ => absurd rfl h
  | [p], _, _ => ⟨p, List.mem_cons_self .., fun y hy => by
    have : y = p := by simpa using hy
    rw [this]; exact Int.le_refl _⟩
  | p :: q :: P, _, h => by
    obtain ⟨x, hx, hb⟩ := best_ratio (P := q :: P) (by simp) fun r hr => h r (List.mem_cons_of_mem _ hr)
    have px := h x (List.mem_cons_of_mem _ hx)
    have pp := h p (List.mem_cons_self ..)
    by_cases hc : p.2 * x.1 ≤ x.2 * p.1
    · exact ⟨x, List.mem_cons_of_mem _ hx, fun y hy => by
        rcases List.mem_cons.mp hy with rfl | hy
        · exact hc
        · exact hb y hy⟩
    · refine ⟨p, List.mem_cons_self .., fun y hy => ?_⟩
      rcases List.mem_cons.mp hy with rfl | hy
      · exact Int.le_refl _
      · have py := h y (List.mem_cons_of_mem _ hy)
        have h1 := hb y hy
        have h2 : x.2 * p.1 ≤ p.2 * x.1 := by omega
        have a1 := Int.mul_le_mul_of_nonneg_right h1 (Int.le_of_lt pp.1)
        have a2 := Int.mul_le_mul_of_nonneg_right h2 (Int.le_of_lt py.1)
        have e1 : y.2 * x.1 * p.1 = y.2 * p.1 * x.1 := by rw [Int.mul_assoc, Int.mul_comm x.1, ← Int.mul_assoc]
        have e2 : x.2 * y.1 * p.1 = x.2 * p.1 * y.1 := by rw [Int.mul_assoc, Int.mul_comm y.1, ← Int.mul_assoc]
        have e3 : p.2 * x.1 * y.1 = p.2 * y.1 * x.1 := by rw [Int.mul_assoc, Int.mul_comm x.1, ← Int.mul_assoc]
        have h3 : y.2 * p.1 * x.1 ≤ p.2 * y.1 * x.1 := by omega
        exact Int.le_of_mul_le_mul_right h3 px.1
theorem mw_best {x : Tw} : ∀ {Q : List Tw}, (∀ y ∈ Q, y.2 * x.1 ≤ x.2 * y.1) → (Q.map (mw x)).sum = x.1 * wsum Q
  | [], _ => by simp [wsum]
  | y :: Q, h => by
    have h1 := h y (List.mem_cons_self ..)
    have h2 := mw_best (Q := Q) fun z hz => h z (List.mem_cons_of_mem _ hz)
    rw [List.map_cons, List.sum_cons, h2]
    show mw x y + x.1 * wsum Q = x.1 * (y.2 + wsum Q)
    rw [Int.mul_add, Int.mul_comm x.1 y.2]
    unfold mw
    split <;> omega
theorem dw_fm : ∀ (n : Nat) {P : List Tw}, P.length = n → P.Pairwise (fun p q => p.1 ≤ q.1) → (∀ p ∈ P, 0 < p.1 ∧ 0 ≤ p.2) → ∃ v, Dw P v ∧ v ≤ fm P
  | 0, P, hn, _, _ => by
    have : P = [] := List.length_eq_zero_iff.mp hn
    subst this
    exact ⟨0, .nil, Int.le_refl _⟩
  | n + 1, P, hn, hs, h0 => by
    obtain ⟨x, hx, hb⟩ := best_ratio (P := P) (by intro z; rw [z] at hn; cases hn) h0
    obtain ⟨X, Y, rfl⟩ := List.append_of_mem hx
    have hp : (X ++ x :: Y).Perm (x :: (X ++ Y)) := List.perm_middle
    have hsub : (X ++ Y).Sublist (X ++ x :: Y) := List.Sublist.append (List.Sublist.refl X) (List.sublist_cons_self x Y)
    have hq0 : ∀ p ∈ X ++ Y, 0 < p.1 ∧ 0 ≤ p.2 := fun p hpp => h0 p (hsub.subset hpp)
    obtain ⟨v, hv, hle⟩ := dw_fm n (P := X ++ Y) (by have := hp.length_eq; simp at this hn ⊢; omega) (hs.sublist hsub) hq0
    obtain ⟨v', hle', hv'⟩ := dw_drop X hv fun q hq => ⟨Int.le_of_lt (hq0 q hq).1, (hq0 q hq).2⟩
    refine ⟨_, .cons X x Y v' hv', ?_⟩
    rw [fm_perm hp]
    show x.1 * wsum (X ++ x :: Y) + v' ≤ x.2 * x.1 + ((X ++ Y).map (mw x)).sum + fm (X ++ Y)
    rw [mw_best fun y hy => hb y (hsub.subset hy)]
    have e : wsum (X ++ x :: Y) = x.2 + wsum (X ++ Y) := by
      rw [wsum_app, wsum_app]
      show wsum X + (x.2 + wsum Y) = _
      omega
    rw [e, Int.mul_add, Int.mul_comm x.1 x.2]
    omega
theorem dw_all {A : List Tw} {a : Tw} : Dw (A ++ [a]) (a.1 * wsum (A ++ [a])) := by
  have := Dw.cons A a [] 0 .nil
  rw [Int.add_zero] at this
  exact this
/-! ### batches, late -/
def mind : Int → List Tw → Int
  | m, [] => m
  | m, p :: P => mind (if p.2 < m then p.2 else m) P
theorem mind_le : ∀ (P : List Tw) (m : Int), mind m P ≤ m ∧ (∀ p ∈ P, mind m P ≤ p.2) ∧ (mind m P = m ∨ ∃ p ∈ P, mind m P = p.2)
  | [], m => ⟨Int.le_refl _, fun p h => (by cases h), .inl rfl⟩
  | q :: P, m => by
    by_cases hq : q.2 < m
    · have e : mind m (q :: P) = mind q.2 P := by
        show mind (if q.2 < m then q.2 else m) P = _
        rw [if_pos hq]
      obtain ⟨h1, h2, h3⟩ := mind_le P q.2
      rw [e]
      refine ⟨by omega, fun p hp => ?_, .inr ?_⟩
      · rcases List.mem_cons.mp hp with rfl | hp
        · exact h1
        · exact h2 p hp
      · rcases h3 with h3 | ⟨p, hp, h3⟩
        · exact ⟨q, List.mem_cons_self .., h3⟩
        · exact ⟨p, List.mem_cons_of_mem _ hp, h3⟩
    · have e : mind m (q :: P) = mind m P := by
        show mind (if q.2 < m then q.2 else m) P = _
        rw [if_neg hq]
      obtain ⟨h1, h2, h3⟩ := mind_le P m
      rw [e]
      refine ⟨h1, fun p hp => ?_, ?_⟩
      · rcases List.mem_cons.mp hp with rfl | hp
        · omega
        · exact h2 p hp
      · rcases h3 with h3 | ⟨p, hp, h3⟩
        · exact .inl h3
        · exact .inr ⟨p, List.mem_cons_of_mem _ hp, h3⟩
/-- v is at least all that comes of a batch that ends at a, of the jobs A and a, and of what follows -/
def lv (A : List Tw) (a : Tw) (o : Option Int) : Int := match o with
  | none => a.1 - mind a.2 A
  | some u => if a.1 - mind a.2 A < a.1 + u then a.1 + u else a.1 - mind a.2 A
inductive Lt : List Tw → Option Int → Prop where
  | nil : Lt [] none
  | cons (A : List Tw) (a : Tw) (B : List Tw) (o : Option Int) (h : Lt B o) : Lt (A ++ a :: B) (some (lv A a o))
theorem lv_ge {A : List Tw} {a : Tw} {o : Option Int} : a.1 - mind a.2 A ≤ lv A a o := by
  unfold lv; split
  · exact Int.le_refl _
  · split <;> omega
theorem lv_ge2 {A : List Tw} {a : Tw} {u : Int} : a.1 + u ≤ lv A a (some u) := by
  unfold lv
  simp only
  split <;> omega
theorem lt_some {P : List Tw} {o : Option Int} (h : Lt P o) (hP : P ≠ []) : ∃ v, o = some v := by
  cases h with
  | nil => exact absurd rfl hP
  | cons => exact ⟨_, rfl⟩
theorem lt_none {B : List Tw} (h : Lt B none) : B = [] := by
  cases h
  rfl
theorem lt_low : ∀ {P : List Tw} {o : Option Int}, Lt P o → P.Pairwise (fun p q => p.1 ≤ q.1) → (∀ p ∈ P, 0 ≤ p.1) → ∀ v, o = some v → ∀ p ∈ P, p.1 - p.2 ≤ v := by
  intro P o h
  induction h with
  | nil => exact fun _ _ v e => by cases e
  | cons A a B o h ih =>
    intro hs h0 v e p hp
    cases e
    obtain ⟨_, s2, s3⟩ := List.pairwise_append.mp hs
    obtain ⟨s4, s5⟩ := List.pairwise_cons.mp s2
    obtain ⟨m1, m2, _⟩ := mind_le A a.2
    have hg := lv_ge (A := A) (a := a) (o := o)
    rcases List.mem_append.mp hp with hp | hp
    · have h1 := s3 p hp a (List.mem_cons_self ..)
      have h2 := m2 p hp
      omega
    · rcases List.mem_cons.mp hp with rfl | hp
      · omega
      · obtain ⟨u, rfl⟩ := lt_some h fun z => by rw [z] at hp; cases hp
        have h3 := ih s5 (fun q hq => h0 q (List.mem_append_right _ (List.mem_cons_of_mem _ hq))) u rfl p hp
        have h4 := lv_ge2 (A := A) (a := a) (u := u)
        have h5 := h0 a (List.mem_append_right _ (List.mem_cons_self ..))
        omega
theorem lt_tail {p : Tw} {Q : List Tw} {v : Int} (h : Lt (p :: Q) (some v)) (hQ : Q ≠ []) (h0 : ∀ q ∈ p :: Q, 0 ≤ q.1) : ∃ v', v' ≤ v ∧ Lt Q (some v') := by
  generalize hP : p :: Q = P at h
  cases h with
  | cons A a B o h =>
    cases A with
    | nil =>
      have e : p = a ∧ Q = B := by simpa using hP
      obtain ⟨rfl, rfl⟩ := e
      obtain ⟨u, rfl⟩ := lt_some h hQ
      have h1 := lv_ge2 (A := []) (a := p) (u := u)
      have h2 := h0 p (List.mem_cons_self ..)
      exact ⟨u, by omega, h⟩
    | cons a0 A =>
      have e : p = a0 ∧ Q = A ++ a :: B := by simpa using hP
      obtain ⟨rfl, rfl⟩ := e
      refine ⟨_, ?_, .cons A a B o h⟩
      have hm : mind a.2 (p :: A) ≤ mind a.2 A := by
        obtain ⟨m1, m2, _⟩ := mind_le (p :: A) a.2
        obtain ⟨_, _, m3⟩ := mind_le A a.2
        rcases m3 with m3 | ⟨q, hq, m3⟩
        · omega
        · have := m2 q (List.mem_cons_of_mem _ hq)
          omega
      unfold lv
      split
      · omega
      · split <;> split <;> omega
theorem lt_drop : ∀ (X : List Tw) {Y : List Tw} {v : Int}, Lt (X ++ Y) (some v) → Y ≠ [] → (∀ q ∈ X ++ Y, 0 ≤ q.1) → ∃ v', v' ≤ v ∧ Lt Y (some v')
  | [], Y, v, h, _, _ => ⟨v, Int.le_refl _, h⟩
  | x :: X, Y, v, h, hY, h0 => by
    obtain ⟨v1, e1, h1⟩ := lt_tail h (by intro z; exact hY (List.append_eq_nil_iff.mp z).2) h0
    obtain ⟨v2, e2, h2⟩ := lt_drop X h1 hY fun q hq => h0 q (List.mem_cons_of_mem _ hq)
    exact ⟨v2, by omega, h2⟩
/-- the greatest lateness of a row, from its end -/
def lateR : List Tw → Option Int
  | [] => none
  | x :: r => some (match lateR r with
    | none => x.1 - x.2
    | some u => if x.1 - x.2 < x.1 + u then x.1 + u else x.1 - x.2)
theorem lt_row : ∀ (r : List Tw) {P : List Tw}, r.Perm P → P ≠ [] → P.Pairwise (fun p q => p.1 ≤ q.1) → (∀ p ∈ P, 0 ≤ p.1) → ∃ v l, Lt P (some v) ∧ lateR r = some l ∧ v ≤ l
  | [], P, h, hP, _, _ => absurd h.symm.eq_nil hP
  | x :: r, P, h, hP, hs, h0 => by
    have hx : x ∈ P := h.subset (List.mem_cons_self ..)
    obtain ⟨X, Y, rfl⟩ := List.append_of_mem hx
    have hp : (X ++ x :: Y).Perm (x :: (X ++ Y)) := List.perm_middle
    have hsub : (X ++ Y).Sublist (X ++ x :: Y) := List.Sublist.append (List.Sublist.refl X) (List.sublist_cons_self x Y)
    have hr : r.Perm (X ++ Y) := (h.trans hp).cons_inv
    have hx0 := h0 x hx
    by_cases hq : X ++ Y = []
    · obtain ⟨rfl, rfl⟩ := List.append_eq_nil_iff.mp hq
      have er : r = [] := hr.eq_nil
      subst er
      exact ⟨_, _, .cons [] x [] none .nil, rfl, Int.le_refl _⟩
    · obtain ⟨u, l, hu, hl, hle⟩ := lt_row r hr hq (hs.sublist hsub) fun p hp => h0 p (hsub.subset hp)
      have hlow := lt_low hu (hs.sublist hsub) (fun p hp => h0 p (hsub.subset hp)) u rfl
      have hmin : x.1 - mind x.2 X ≤ x.1 - x.2 ∨ x.1 - mind x.2 X ≤ x.1 + u := by
        obtain ⟨_, _, m3⟩ := mind_le X x.2
        rcases m3 with m3 | ⟨q, hq, m3⟩
        · exact .inl (by omega)
        · have h1 := hlow q (List.mem_append_left _ hq)
          have h2 := h0 q (List.mem_append_left _ hq)
          exact .inr (by omega)
      have el : lateR (x :: r) = some (if x.1 - x.2 < x.1 + l then x.1 + l else x.1 - x.2) := by
        show some (match lateR r with
          | none => x.1 - x.2
          | some u => if x.1 - x.2 < x.1 + u then x.1 + u else x.1 - x.2) = _
        rw [hl]
      by_cases hY : Y = []
      · subst hY
        refine ⟨_, _, .cons X x [] none .nil, el, ?_⟩
        show x.1 - mind x.2 X ≤ _
        split <;> omega
      · obtain ⟨u', e', h'⟩ := lt_drop X hu hY fun p hp => h0 p (hsub.subset hp)
        refine ⟨_, _, .cons X x Y (some u') h', el, ?_⟩
        unfold lv
        simp only
        split <;> split <;> omega
def IsLt (P : List Tw) (o : Option Int) : Prop := Lt P o ∧ ∀ v v', o = some v → Lt P (some v') → v ≤ v'
end Lk89

namespace Lk89
open PySem PySem.Spec PyProof.Rows L2 Z
local macro_rules | `(tactic| and_intros) => `(tactic| simp only [denS, denR, denE, denEs, denT, denTs, denBop, denN, denO, denC, denW, Exs.isNil, tos_seq, tos_bindR, tos_nx, tos_rt, tos_bk, tos_ct, to_bind, to_noex, to_ok, to_some, to_ite, to_fit, to_map, to_obind, tob_nil, var_z, var_o, var_s, set_z, set_s, Option.map_some, Option.bind_some, b_add, b_sub, b_mul, b_div, b_mod, b_pow, b_adds, b_addl, b_mull, c_lt, c_le, c_gt, c_ge, c_is, c_isn, c_eq, c_ne, e_int, t_bl, t_int, t_lst, t_non, i_tup, i_lst, i_loc, at0, at1, at2, l_lst, m_lst, l_scr, f_int, f_len, f_lens, f_lent, f_max2, f_min2, bt_bits, bd_bits, g_rng1, g_rng2, List.set_cons_zero, List.set_cons_succ, wipeR, s_lst, ld_lst, ok_lst, ok_tup, ok_int, ok_str, ok_bl, ok_non, is_ll, is_tt, is_lt, is_tl, is_li, is_ti, is_si, is_bi, is_ii, is_ss, is_ls, is_ts, f_isiL, f_lenT, f_srt, f_srtP, f_all, f_sumI, f_min1, f_max1, f_tup, bt_idx, bd_idx, g_rng3, g_lrg1, e_bl, rev_map, List.length_map, Bool.or_true, Bool.or_false,    Option.isNone_some, Option.isNone_none, Bool.not_false, Bool.not_true,  List.map_cons, List.map_nil, List.length_cons, List.length_nil, List.replicate, List.cons_append, List.nil_append])
local macro_rules | `(tactic| trivial) => `(tactic| first | exact ⟨rfl, rfl⟩ | exact ⟨True.intro, True.intro⟩ | exact ⟨rfl, True.intro⟩ | exact ⟨True.intro, rfl⟩ | exact True.intro | rfl)
local macro_rules | `(tactic| subst_eqs) => `(tactic| (refine tob_cons ?_; and_intros))

/-! ### sorted rows -/
abbrev eN (k : Nat) : D := .int (k : Int)
def asc (T : List Int) : List Int := isrt leI T
def dsc (T : List Int) : List Int := (isrt leI T).reverse
theorem asc_perm (T : List Int) : (asc T).Perm T := isrt_perm T
theorem asc_srt (T : List Int) : (asc T).Pairwise (· ≤ ·) := (isrt_srt leI_tot T).imp fun h => of_decide_eq_true h
theorem asc_uniq {l T : List Int} (h : l.Perm T) (s : l.Pairwise (· ≤ ·)) : l = asc T := isrt_eq leI_tot h (s.imp fun h => decide_eq_true h)
theorem dsc_uniq {l T : List Int} (h : l.Perm T) (s : l.Pairwise (fun a b => b ≤ a)) : l = dsc T := by
  have : l.reverse = asc T := asc_uniq ((List.reverse_perm l).trans h) (List.pairwise_reverse.mpr s)
  unfold dsc
  have e : asc T = isrt leI T := rfl
  rw [← e, ← this, List.reverse_reverse]
theorem dsc_perm (T : List Int) : (dsc T).Perm T := (List.reverse_perm _).trans (asc_perm T)
theorem dsc_len (T : List Int) : (dsc T).length = T.length := (dsc_perm T).length_eq
theorem asc_len (T : List Int) : (asc T).length = T.length := (asc_perm T).length_eq
def lpr (T : List Int) : List (Int × Int) := isrt leP (T.zipIdx.map fun p => (-p.1, (p.2 : Int)))
def spr (T : List Int) : List (Int × Int) := isrt leP (T.zipIdx.map fun p => (p.1, (p.2 : Int)))
theorem zip_fst (T : List Int) (k : Nat) : (T.zipIdx k).map (·.1) = T := by simp
theorem lpr_fst (T : List Int) : (lpr T).map (fun p => -p.1) = dsc T := by
  refine dsc_uniq ?_ ?_
  · have h := (isrt_perm (le := leP) (T.zipIdx.map fun p => (-p.1, (p.2 : Int)))).map fun p => -p.1
    rw [List.map_map] at h
    have e : (T.zipIdx.map ((fun p : Int × Int => -p.1) ∘ fun p => (-p.1, (p.2 : Int)))) = T := by
      conv => rhs; rw [← zip_fst T 0]
      exact List.map_congr_left fun p _ => by show - -p.1 = p.1; omega
    rw [e] at h
    exact h
  · rw [List.pairwise_map]
    exact (isrt_srt leP_tot _).imp fun {a b} h => by rw [leP_iff] at h; omega
theorem spr_fst (T : List Int) : (spr T).map (·.1) = asc T := by
  refine asc_uniq ?_ ?_
  · have h := (isrt_perm (le := leP) (T.zipIdx.map fun p => (p.1, (p.2 : Int)))).map (·.1)
    rw [List.map_map] at h
    have e : (T.zipIdx.map ((fun p : Int × Int => p.1) ∘ fun p => (p.1, (p.2 : Int)))) = T := by
      conv => rhs; rw [← zip_fst T 0]
      exact List.map_congr_left fun p _ => rfl
    rw [e] at h
    exact h
  · rw [List.pairwise_map]
    exact (isrt_srt leP_tot _).imp fun {a b} h => by rw [leP_iff] at h; omega
theorem zip_get {T : List Int} {p : Int × Nat} (h : p ∈ T.zipIdx) : p.2 < T.length ∧ T.getD p.2 0 = p.1 := by
  obtain ⟨i, hi⟩ := List.mem_iff_getElem?.mp h
  rw [List.getElem?_zipIdx] at hi
  cases ht : T[i]? with
  | none => rw [ht] at hi; cases hi
  | some t =>
    rw [ht] at hi
    cases hi
    have := (List.getElem?_eq_some_iff.mp ht).1
    refine ⟨by show 0 + i < _; omega, ?_⟩
    show T.getD (0 + i) 0 = t
    rw [Nat.zero_add, List.getD_eq_getElem?_getD, ht]; rfl
theorem lpr_get {T : List Int} {p : Int × Int} (h : p ∈ lpr T) : ∃ k : Nat, p.2 = (k : Int) ∧ k < T.length ∧ T.getD k 0 = -p.1 := by
  obtain ⟨q, hq, rfl⟩ := List.mem_map.mp ((isrt_perm _).subset h)
  obtain ⟨h1, h2⟩ := zip_get hq
  exact ⟨q.2, rfl, h1, by show _ = - -q.1; omega⟩
theorem spr_get {T : List Int} {p : Int × Int} (h : p ∈ spr T) : ∃ k : Nat, p.2 = (k : Int) ∧ k < T.length ∧ T.getD k 0 = p.1 := by
  obtain ⟨q, hq, rfl⟩ := List.mem_map.mp ((isrt_perm _).subset h)
  obtain ⟨h1, h2⟩ := zip_get hq
  exact ⟨q.2, rfl, h1, h2⟩
theorem lpr_len (T : List Int) : (lpr T).length = T.length := by
  unfold lpr
  rw [isrt_len, List.length_map, List.length_zipIdx]
theorem spr_len (T : List Int) : (spr T).length = T.length := by
  unfold spr
  rw [isrt_len, List.length_map, List.length_zipIdx]
theorem lsum_zip (m : Nat) : ∀ (R : List Int) (k : Nat), ((R.zipIdx k).map fun p => p.1 * ((p.2 / m + 1 : Nat) : Int)).sum = lsum m k R
  | [], _ => rfl
  | r :: R, k => by
    rw [List.zipIdx_cons, List.map_cons, List.sum_cons, lsum_zip m R (k + 1)]; rfl
section
variable {μ : Mu} {n : Nat} {Q : D → Mu → Prop} {i j lo hi : Int} {T U : List Int}
theorem longest9 (hl : T.length ≤ 1000) (hq : Q (.lst ((lpr T).map fun p => .int p.2)) μ) : R.To (phi G.cs (fbs G.toGi) (n + 1) 52 [.lst (T.map .int)] μ) Q := by
  refine to_phi fb52 rfl ?_
  unfold ir52
  subst_eqs
  rw [enu_zip]
  refine cmp_all _ (fun p => eP (-p.1, (p.2 : Int))) (fun p hp => ⟨[.val (.lst (T.map .int)), .emp, .val (.int (p.2 : Nat)), .val (.int p.1)], rfl, ?_⟩) (by rw [List.length_zipIdx]; omega) ?_
  · and_intros
    exact ⟨by decide, rfl, by trivial⟩
  have e : (T.zipIdx.map fun p => eP (-p.1, (p.2 : Int))) = (T.zipIdx.map fun p => (-p.1, (p.2 : Int))).map eP := by rw [List.map_map]; rfl
  rw [e]
  and_intros
  refine cmp_all eP (fun p => .int p.2) (fun p hp => ⟨[.val (.lst (T.map .int)), .val (eP p), .emp, .emp], rfl, ?_⟩) (by rw [isrt_len, List.length_map, List.length_zipIdx]; omega) hq
  unfold eP
  and_intros
  trivial
theorem longest9' (hl : T.length ≤ 1000) (hq : Q (.lst ((lpr T).map fun p => .int p.2)) μ) : R.To (phi G.cs (fbs G.toGi) (n + 1) 67 [.lst (T.map .int)] μ) Q := by
  refine to_phi fb67 rfl ?_
  unfold ir67
  subst_eqs
  rw [enu_zip]
  refine cmp_all _ (fun p => eP (-p.1, (p.2 : Int))) (fun p hp => ⟨[.val (.lst (T.map .int)), .emp, .val (.int (p.2 : Nat)), .val (.int p.1)], rfl, ?_⟩) (by rw [List.length_zipIdx]; omega) ?_
  · and_intros
    exact ⟨by decide, rfl, by trivial⟩
  have e : (T.zipIdx.map fun p => eP (-p.1, (p.2 : Int))) = (T.zipIdx.map fun p => (-p.1, (p.2 : Int))).map eP := by rw [List.map_map]; rfl
  rw [e]
  and_intros
  refine cmp_all eP (fun p => .int p.2) (fun p hp => ⟨[.val (.lst (T.map .int)), .val (eP p), .emp, .emp], rfl, ?_⟩) (by rw [isrt_len, List.length_map, List.length_zipIdx]; omega) hq
  unfold eP
  and_intros
  trivial
theorem shortest9 (hl : T.length ≤ 1000) (hq : Q (.lst ((spr T).map fun p => .int p.2)) μ) : R.To (phi G.cs (fbs G.toGi) (n + 1) 70 [.lst (T.map .int)] μ) Q := by
  refine to_phi fb70 rfl ?_
  unfold ir70
  subst_eqs
  rw [enu_zip]
  refine cmp_all _ (fun p => eP (p.1, (p.2 : Int))) (fun p hp => ⟨[.val (.lst (T.map .int)), .emp, .val (.int (p.2 : Nat)), .val (.int p.1)], rfl, ?_⟩) (by rw [List.length_zipIdx]; omega) ?_
  · and_intros
    exact ⟨by decide, rfl, by trivial⟩
  have e : (T.zipIdx.map fun p => eP (p.1, (p.2 : Int))) = (T.zipIdx.map fun p => (p.1, (p.2 : Int))).map eP := by rw [List.map_map]; rfl
  rw [e]
  and_intros
  refine cmp_all eP (fun p => .int p.2) (fun p hp => ⟨[.val (.lst (T.map .int)), .val (eP p), .emp, .emp], rfl, ?_⟩) (by rw [isrt_len, List.length_map, List.length_zipIdx]; omega) hq
  unfold eP
  and_intros
  trivial
theorem sumover9 {lot : List Nat} (h1 : ∀ k ∈ lot, k < U.length) (hl : lot.length ≤ 1000) (hq : Q (.int ((lot.map fun k => U.getD k 0).sum)) μ) : R.To (phi G.cs (fbs G.toGi) (n + 1) 10 [.lst (U.map .int), .lst (lot.map eN)] μ) Q := by
  refine to_phi fb10 rfl ?_
  unfold ir10
  subst_eqs
  refine cmp_int eN (fun k => U.getD k 0) (fun k hk => ⟨[.val (.lst (U.map .int)), .val (.lst (lot.map eN)), .val (eN k)], rfl, ?_⟩) (by omega) ?_
  · and_intros
    rw [at_get 0 (h1 k hk)]
    and_intros
    trivial
  · and_intros
    exact hq
theorem lsof9 {m : Nat} (h1 : 1 ≤ m) (h2 : m ≤ 8) (h : Tm T) (hq : Q (.int (au m (asc T))) μ) : R.To (phi G.cs (fbs G.toGi) (n + 1) 14 [.lst (T.map .int), .int (m : Nat)] μ) Q := by
  have hl := h.l2
  refine to_phi fb14 rfl ?_
  unfold ir14
  subst_eqs
  subst_eqs
  rw [enu_zip]
  have hdl := dsc_len T
  have hd : (isrt leI T).reverse = dsc T := rfl
  rw [hd]
  refine cmp_int _ (fun p => p.1 * ((p.2 / m + 1 : Nat) : Int)) (fun p hp => ⟨[.val (.lst (T.map .int)), .val (.int (m : Nat)), .val (.lst ((dsc T).map .int)), .val (.int (p.2 : Nat)), .val (.int p.1)], rfl, ?_⟩) (by rw [List.length_zipIdx]; omega) ?_
  · obtain ⟨q1, q2⟩ := zip_get hp
    have hb : 1 ≤ p.1 ∧ p.1 ≤ 1000 := by
      refine h.c p.1 ((dsc_perm T).subset ?_)
      rw [← q2, List.getD_eq_getElem?_getD, List.getElem?_eq_getElem q1]
      exact List.getElem_mem q1
    and_intros
    have e : ((p.2 : Nat) : Int).fdiv (m : Nat) = ((p.2 / m : Nat) : Int) := by
      rw [Int.fdiv_eq_ediv_of_nonneg _ (by omega)]; rfl
    rw [e]
    have hle : p.2 / m ≤ p.2 := Nat.div_le_self _ _
    revert hle
    generalize p.2 / m = q
    intro hle
    exact ⟨div_sz (a := 20) (by omega) (sz_of (by omega) (by omega)) (by omega), mul_sz (a := 20) (b := 20) (sz_of (by omega) (by omega)) (sz_of (by omega) (by omega)) (by omega), by rfl, by trivial⟩
  · and_intros
    rw [lsum_zip]
    unfold dsc
    rw [lsum_rev]
    exact hq
theorem lsum9 {m : Nat} (h1 : 1 ≤ m) (h2 : m ≤ 8) (h : Tm T) (hq : Q (.int (au m (asc T))) μ) : R.To (phi G.cs (fbs G.toGi) (n + 7) 15 [.lst (T.map .int), .int (m : Nat)] μ) Q := by
  refine to_phi fb15 rfl ?_
  unfold ir15
  subst_eqs
  refine to_phi fb13 rfl ?_
  unfold ir13
  subst_eqs
  refine ctimes9 h ?_
  and_intros
  subst_eqs
  refine cmach9 (by omega) (by omega) ?_
  and_intros
  subst_eqs
  refine lsof9 h1 h2 h ?_
  exact hq
end
end Lk89

namespace Lk89
open PySem PySem.Spec PyProof.Rows L2 Z
local macro_rules | `(tactic| and_intros) => `(tactic| simp only [denS, denR, denE, denEs, denT, denTs, denBop, denN, denO, denC, denW, Exs.isNil, tos_seq, tos_bindR, tos_nx, tos_rt, tos_bk, tos_ct, to_bind, to_noex, to_ok, to_some, to_ite, to_fit, to_map, to_obind, tob_nil, var_z, var_o, var_s, set_z, set_s, Option.map_some, Option.bind_some, b_add, b_sub, b_mul, b_div, b_mod, b_pow, b_adds, b_addl, b_mull, c_lt, c_le, c_gt, c_ge, c_is, c_isn, c_eq, c_ne, e_int, t_bl, t_int, t_lst, t_non, i_tup, i_lst, i_loc, at0, at1, at2, l_lst, m_lst, l_scr, f_int, f_len, f_lens, f_lent, f_max2, f_min2, bt_bits, bd_bits, g_rng1, g_rng2, List.set_cons_zero, List.set_cons_succ, wipeR, s_lst, ld_lst, ok_lst, ok_tup, ok_int, ok_str, ok_bl, ok_non, is_ll, is_tt, is_lt, is_tl, is_li, is_ti, is_si, is_bi, is_ii, is_ss, is_ls, is_ts, f_isiL, f_lenT, f_srt, f_srtP, f_all, f_sumI, f_min1, f_max1, f_tup, bt_idx, bd_idx, g_rng3, g_lrg1, e_bl, rev_map, List.length_map, Bool.or_true, Bool.or_false,    Option.isNone_some, Option.isNone_none, Bool.not_false, Bool.not_true,  List.map_cons, List.map_nil, List.length_cons, List.length_nil, List.replicate, List.cons_append, List.nil_append])
local macro_rules | `(tactic| trivial) => `(tactic| first | exact ⟨rfl, rfl⟩ | exact ⟨True.intro, True.intro⟩ | exact ⟨rfl, True.intro⟩ | exact ⟨True.intro, rfl⟩ | exact True.intro | rfl)
local macro_rules | `(tactic| subst_eqs) => `(tactic| (refine tob_cons ?_; and_intros))

/-! ### no order -/
section
variable {μ : Mu} {n : Nat} {Q : D → Mu → Prop} {i j lo hi : Int} {T U : List Int} {m : Nat}
theorem enc_P : Enc eP (fun _ => True) 1 := by
  have := enc_pair enc_int enc_int
  exact ⟨fun p _ => this.py p ⟨True.intro, True.intro⟩, fun p q _ _ => this.eq p q ⟨True.intro, True.intro⟩ ⟨True.intro, True.intro⟩⟩
theorem in_none {a b : Int} : cmpD .In μ (.tup [.int a, .int b]) (.lst []) = some false := by
  have := in_of (μ := μ) enc_P (by omega) (x := (a, b)) (ys := []) True.intro (fun _ h => by cases h)
  rw [decide_eq_false (by simp)] at this
  exact this
theorem rng0 {k : Nat} : rngItems 0 ((k : Int)).toNat = (List.range k).map eN := by
  rw [Int.toNat_natCast]; exact rng_map
theorem len_rng (k : Nat) : (List.range k).length = k := List.length_range
abbrev rowF (k : Nat) : D := .lst ((List.range k).map fun _ => D.bl false)
theorem at_rng {f : Nat → D} {k j : Nat} (h : j < k) : atI ((List.range k).map f) (j : Int) = some (f j) := by
  have := at_get (f := f) (l := List.range k) 0 (k := j) (by rw [List.length_range]; exact h)
  rw [this]
  congr 2
  rw [List.getD_eq_getElem?_getD, List.getElem?_range h]; rfl
theorem reach9 (hm : m ≤ 12) (hq : Q (.lst ((List.range m).map fun _ => rowF m)) μ) : R.To (phi G.cs (fbs G.toGi) (n + 1) 43 [.int (m : Nat), .lst []] μ) Q := by
  have hl := len_rng m
  have ok : rngOk (m : Int) = true := rngOk_of (by omega) (by omega)
  refine to_phi fb43 rfl ?_
  unfold ir43
  subst_eqs
  refine ⟨ok, ?_⟩
  rw [rng0]
  refine cmp_all eN (fun _ => rowF m) (fun k hk => ⟨[.val (.int (m : Nat)), .val (.lst []), .emp, .emp, .val (eN k), .emp], rfl, ?_⟩) (by omega) ?_
  · and_intros
    refine ⟨ok, ?_⟩
    rw [rng0]
    refine cmp_all eN (fun _ => .bl false) (fun k2 hk => ⟨[.val (.int (m : Nat)), .val (.lst []), .emp, .emp, .val (eN k), .val (eN k2)], rfl, ?_⟩) (by omega) ?_
    · and_intros
      refine ⟨by decide, ?_⟩
      rw [in_none]
      and_intros
      trivial
    · trivial
  subst_eqs
  refine ⟨ok, ?_⟩
  rw [rng0]
  refine for_to (fun j ρ μ' => ∃ s3 s4 s5, ρ = [.val (.int (m : Nat)), .val (.lst []), .own ((List.range m).map fun _ => rowF m), s3, s4, s5] ∧ μ' = μ) _ 0 _ _ ⟨_, _, _, rfl, rfl⟩ ?_ ?_
  · rintro i x ρ μ' hx ⟨s3, s4, s5, rfl, rfl⟩
    obtain ⟨k, hk, rfl⟩ : ∃ k, k < m ∧ x = eN k := by
      rw [List.getElem?_map] at hx
      have hi : i < m := by
        have := List.getElem?_eq_some_iff.mp (Option.map_eq_some_iff.mp hx).choose_spec.1
        have := this.1
        rw [List.length_range] at this; exact this
      rw [List.getElem?_range hi] at hx
      exact ⟨i, hi, (Option.some.inj hx).symm⟩
    refine ⟨[.val (.int (m : Nat)), .val (.lst []), .own ((List.range m).map fun _ => rowF m), .val (eN k), s4, s5], rfl, ?_⟩
    subst_eqs
    refine ⟨ok, ?_⟩
    rw [rng0]
    refine for_to (fun j ρ μ'' => ∃ s4 s5, ρ = [.val (.int (m : Nat)), .val (.lst []), .own ((List.range m).map fun _ => rowF m), .val (eN k), s4, s5] ∧ μ'' = μ') _ 0 _ _ ⟨_, _, rfl, rfl⟩ ?_ ?_
    · rintro i x ρ μ'' hx ⟨s4, s5, rfl, rfl⟩
      obtain ⟨k2, hk2, rfl⟩ : ∃ k, k < m ∧ x = eN k := by
        rw [List.getElem?_map] at hx
        have hi : i < m := by
          have := List.getElem?_eq_some_iff.mp (Option.map_eq_some_iff.mp hx).choose_spec.1
          have := this.1
          rw [List.length_range] at this; exact this
        rw [List.getElem?_range hi] at hx
        exact ⟨i, hi, (Option.some.inj hx).symm⟩
      refine ⟨[.val (.int (m : Nat)), .val (.lst []), .own ((List.range m).map fun _ => rowF m), .val (eN k), .val (eN k2), s5], rfl, ?_⟩
      subst_eqs
      rw [at_rng hk2]
      and_intros
      rw [at_rng hk]
      and_intros
      exact ⟨_, _, rfl, by trivial⟩
    · rintro ρ μ'' ⟨s4, s5, rfl, rfl⟩
      dsimp only
      and_intros
      exact ⟨_, _, _, rfl, by trivial⟩
  · rintro ρ μ' ⟨s3, s4, s5, rfl, rfl⟩
    dsimp only
    refine tob_cons ?_
    refine frz_to rfl ?_
    dsimp only
    subst_eqs
    exact hq
theorem isord9 (hm : m ≤ 12) (hq : Q (.bl true) μ) : R.To (phi G.cs (fbs G.toGi) (n + 2) 44 [.int (m : Nat), .lst []] μ) Q := by
  have hl := len_rng m
  have ok : rngOk (m : Int) = true := rngOk_of (by omega) (by omega)
  have en : eqD μ (.lst []) (.lst []) = some true := by
    rw [eq_nil fun x hx => by cases hx]; rfl
  refine to_phi fb44 rfl ?_
  unfold ir44
  subst_eqs
  refine ⟨by trivial, ?_⟩
  refine ⟨by decide, ?_⟩
  rw [en]
  and_intros
  subst_eqs
  refine ⟨by decide, ?_⟩
  show R.To (compGo _ _ _ _ (([] : List Nat).map eN) [] μ) _
  refine cmp_flt eN (fun _ => true) eN (fun y hy => by cases hy) (by simp) ?_
  simp only [List.filter_nil, List.map_nil]
  refine ⟨by decide, ?_⟩
  rw [en]
  and_intros
  subst_eqs
  refine reach9 hm ?_
  and_intros
  subst_eqs
  refine ⟨ok, ?_⟩
  rw [rng0]
  refine cmp_flt eN (fun _ => false) eN (fun k hk => ⟨[.val (.int (m : Nat)), .val (.lst []), .val (.lst ((List.range m).map fun _ => rowF m)), .emp, .val (eN k), .emp], rfl, ?_, fun h => by cases h⟩) (by omega) ?_
  · have hk' := List.mem_range.mp hk
    and_intros
    rw [at_rng hk']
    and_intros
    rw [at_rng hk']
    and_intros
    trivial
  · rw [List.filter_eq_nil_iff.mpr fun _ _ => by simp]
    and_intros
    refine ⟨by decide, ?_⟩
    rw [en]
    and_intros
    exact hq
theorem due9 (h : Tm T) (hU : Cn 0 100000 U) (hl : U.length = T.length) (hq : Q .non μ) : R.To (phi G.cs (fbs G.toGi) (n + 6) 61 [.lst (T.map .int), .lst [], .lst (U.map .int)] μ) Q := by
  refine to_phi fb61 rfl ?_
  unfold ir61
  subst_eqs
  refine ctimes9 h ?_
  and_intros
  subst_eqs
  refine to_phi fb45 rfl ?_
  unfold ir45
  subst_eqs
  refine isord9 h.l2 ?_
  and_intros
  subst_eqs
  refine dues9 hU hl ?_
  and_intros
  exact hq
theorem last9 {lot : List Nat} (hl : lot.length ≤ 1000) (hq : Q (.lst (lot.map eN)) μ) : R.To (phi G.cs (fbs G.toGi) (n + 1) 48 [.lst [], .lst (lot.map eN)] μ) Q := by
  have en : eqD μ (.lst []) (.lst []) = some true := by
    rw [eq_nil fun x hx => by cases hx]; rfl
  refine to_phi fb48 rfl ?_
  unfold ir48
  subst_eqs
  refine cmp_flt eN (fun _ => true) eN (fun k hk => ⟨[.val (.lst []), .val (.lst (lot.map eN)), .val (eN k), .emp], rfl, ?_, fun h => ?_⟩) (by omega) ?_
  · and_intros
    show R.To (compGo _ _ _ _ (([] : List Nat).map eN) [] μ) _
    refine cmp_flt eN (fun _ => true) eN (fun y hy => by cases hy) (by simp) ?_
    simp only [List.filter_nil, List.map_nil]
    refine ⟨by decide, ?_⟩
    rw [en]
    and_intros
    trivial
  · and_intros
    trivial
  · rw [List.filter_eq_self.mpr fun _ _ => rfl]
    exact hq
/-! ### rows by dues -/
theorem ixInt_mem : ∀ {l : List Int} {x : Int}, x ∈ l → ∃ k, ixInt x l = some k ∧ k < l.length
  | [], x, h => by cases h
  | y :: l, x, h => by
    unfold ixInt
    by_cases e : y = x
    · rw [if_pos e]; exact ⟨0, rfl, by simp⟩
    · rw [if_neg e]
      have hx : x ∈ l := by
        rcases List.mem_cons.mp h with z | z
        · exact absurd z.symm e
        · exact z
      obtain ⟨k, h1, h2⟩ := ixInt_mem hx
      exact ⟨k + 1, by rw [h1]; rfl, by simp; omega⟩
theorem maxI_mem (e : Int) (es : List Int) : maxI e es ∈ e :: es := by
  obtain ⟨_, _, h⟩ := maxI_le es e
  rcases h with h | h
  · rw [h]; exact List.mem_cons_self ..
  · exact List.mem_cons_of_mem _ h
theorem filter_ne {l : List Nat} (hn : l.Nodup) {k : Nat} (hk : k < l.length) : (l[k] :: l.filter (fun x => !decide (x = l[k]))).Perm l := by
  have h1 : l.filter (fun x => !decide (x = l[k])) = l.erase l[k] := by
    rw [List.Nodup.erase_eq_filter hn]
    refine List.filter_congr fun x _ => ?_
    by_cases e : x = l[k]
    · rw [decide_eq_true e]; simp [e]
    · rw [decide_eq_false e]; simp [bne_iff_ne, e]
  rw [h1]
  exact (List.perm_cons_erase (List.getElem_mem hk)).symm
theorem bydues9 (h1 : T.length ≤ 12) (hl : U.length = T.length) (hq : ∀ row : List Nat, row.Perm (List.range T.length) → Q (.lst (row.map eN)) μ) : R.To (phi G.cs (fbs G.toGi) (n + 2) 63 [.lst (T.map .int), .lst [], .lst (U.map .int)] μ) Q := by
  have h24 : sizeLine = 16777216 := by decide
  refine to_phi fb63 rfl ?_
  unfold ir63
  subst_eqs
  refine ⟨?_, ?_⟩
  · rw [rngOk_of (by omega) (by omega)]
    exact decide_eq_true (by omega)
  rw [rng0]
  subst_eqs
  refine ⟨by decide, ?_⟩
  refine tob_cons ?_
  show RS.To (whlGo _ _ 1099511627776 _ _) _
  refine whl_to (fun c ρ μ' => ∃ (left found : List Nat) (s5 s6 s7 s8 : Slot), ρ = [.val (.lst (T.map .int)), .val (.lst []), .val (.lst (U.map .int)), .val (.lst (left.map eN)), .own (found.map eN), s5, s6, s7, s8] ∧ μ' = μ ∧ (found ++ left).Perm (List.range T.length) ∧ c = left.length) ?_ _ T.length _ _ (by omega) ⟨List.range T.length, [], .emp, .emp, .emp, .emp, rfl, rfl, .refl _, (len_rng _).symm⟩
  rintro c ρ μ' ⟨left, found, s5, s6, s7, s8, rfl, rfl, hp, rfl⟩
  have hlen : found.length + left.length = T.length := by
    have := hp.length_eq
    rw [List.length_append, List.length_range] at this
    exact this
  have hnd : left.Nodup := (List.nodup_append.mp (hp.nodup_iff.mpr List.nodup_range)).2.1
  have hlt : ∀ k ∈ left, k < T.length := fun k hk => List.mem_range.mp (hp.subset (List.mem_append_right _ hk))
  and_intros
  rw [eq_nil fun x hx => by
    obtain ⟨k, _, rfl⟩ := List.mem_map.mp hx
    exact pln_int]
  and_intros
  cases left with
  | nil =>
    simp only [List.map_nil, List.isEmpty_nil, Bool.not_true]
    refine ⟨by decide, ?_⟩
    subst_eqs
    refine hq found.reverse ((List.reverse_perm _).trans ?_)
    rw [List.append_nil] at hp
    exact hp
  | cons a left =>
    generalize hL : a :: left = L at *
    have hne : L ≠ [] := by rw [← hL]; simp
    have e1 : (L.map eN).isEmpty = false := by rw [← hL]; rfl
    rw [e1]
    simp only [Bool.not_false]
    refine ⟨by decide, ?_⟩
    subst_eqs
    refine last9 (by omega) ?_
    and_intros
    subst_eqs
    refine cmp_int eN (fun k => U.getD k 0) (fun k hk => ⟨[.val (.lst (T.map .int)), .val (.lst []), .val (.lst (U.map .int)), .val (.lst (L.map eN)), .own (found.map eN), .val (.lst (L.map eN)), s6, .val (eN k), s8], rfl, ?_⟩) (by omega) ?_
    · and_intros
      rw [at_get 0 (by rw [hl]; exact hlt k hk)]
      and_intros
      trivial
    subst_eqs
    generalize hg : (L.map fun k => U.getD k 0) = told
    have ht : told.length = L.length := by rw [← hg, List.length_map]
    obtain ⟨e, es, het⟩ : ∃ e es, told = e :: es := by
      cases told with
      | nil => simp at ht; exact absurd (List.length_eq_zero_iff.mp ht.symm) hne
      | cons e es => exact ⟨e, es, rfl⟩
    obtain ⟨k, hk1, hk2⟩ := ixInt_mem (maxI_mem e es)
    rw [het]
    show R.To (R.opt (biD .max μ' [.lst ((e :: es).map .int)]) μ') _
    rw [f_max1]
    and_intros
    show R.To (R.opt (bmD .index μ' (.lst ((e :: es).map .int)) [.int (maxI e es)]) μ') _
    rw [bd_idx, hk1]
    and_intros
    have hkL : k < L.length := by rw [← ht, het]; exact hk2
    rw [at_get 0 hkL]
    and_intros
    have egk : L.getD k 0 = L[k] := by rw [List.getD_eq_getElem?_getD, List.getElem?_eq_getElem hkL]; rfl
    rw [egk]
    subst_eqs
    refine chg_own rfl ?_
    and_intros
    refine ⟨_, _, by rw [app_k, decide_eq_true (by rw [List.length_map]; omega)]; rfl, rfl, ?_⟩
    subst_eqs
    refine cmp_flt eN (fun x => !decide (x = L[k])) eN (fun x hx => ⟨[.val (.lst (T.map .int)), .val (.lst []), .val (.lst (U.map .int)), .val (.lst (L.map eN)), .own (found.map eN ++ [eN L[k]]), .val (.lst (L.map eN)), .val (.lst ((e :: es).map .int)), .val (eN L[k]), .val (eN x)], rfl, ?_, fun _ => ?_⟩) (by omega) ?_
    · and_intros
      refine ⟨?_, by trivial⟩
      by_cases z : x = L[k]
      · rw [decide_eq_true z, decide_eq_true (show (x : Int) = (L[k] : Nat) by omega)]
      · rw [decide_eq_false z, decide_eq_false (show ¬ (x : Int) = (L[k] : Nat) by omega)]
    · and_intros
      trivial
    and_intros
    have hf := filter_ne hnd hkL
    refine ⟨(L.filter fun x => !decide (x = L[k])).length, ?_, _, found ++ [L[k]], _, _, _, _, by rw [List.map_append]; rfl, by trivial, ?_, rfl⟩
    · have := hf.length_eq
      rw [List.length_cons] at this
      omega
    · rw [List.append_assoc]
      exact (List.Perm.append_left _ hf).trans hp
end
end Lk89

namespace Lk89
open PySem PySem.Spec PyProof.Rows L2 Z
section
variable {xs : List D} {j : Int}
theorem rep_k : repL xs j = ite? (i63 j && fits (xs.length * j.toNat)) (List.replicate j.toNat xs).flatten := rfl
end
theorem rep_one {d : D} (k : Nat) : (List.replicate k [d]).flatten = List.replicate k d := by
  induction k with
  | zero => rfl
  | succ k ih => rw [List.replicate_succ, List.flatten_cons, ih, List.replicate_succ]; rfl
theorem rep_ok {k : Nat} (h : k ≤ 1000) : (i63 (k : Int) && fits (1 * ((k : Int)).toNat)) = true := by
  rw [i63_iff.mpr (by omega)]
  exact decide_eq_true (by show _ ≤ 2 ^ 24; omega)
local macro_rules | `(tactic| and_intros) => `(tactic| simp only [denS, denR, denE, denEs, denT, denTs, denBop, denN, denO, denC, denW, Exs.isNil, tos_seq, tos_bindR, tos_nx, tos_rt, tos_bk, tos_ct, to_bind, to_noex, to_ok, to_some, to_ite, to_fit, to_map, to_obind, tob_nil, var_z, var_o, var_s, set_z, set_s, Option.map_some, Option.bind_some, b_add, b_sub, b_mul, b_div, b_mod, b_pow, b_adds, b_addl, b_mull, c_lt, c_le, c_gt, c_ge, c_is, c_isn, c_eq, c_ne, e_int, t_bl, t_int, t_lst, t_non, i_tup, i_lst, i_loc, at0, at1, at2, l_lst, m_lst, l_scr, f_int, f_len, f_lens, f_lent, f_max2, f_min2, bt_bits, bd_bits, g_rng1, g_rng2, List.set_cons_zero, List.set_cons_succ, wipeR, s_lst, ld_lst, ok_lst, ok_tup, ok_int, ok_str, ok_bl, ok_non, is_ll, is_tt, is_lt, is_tl, is_li, is_ti, is_si, is_bi, is_ii, is_ss, is_ls, is_ts, f_isiL, f_lenT, f_srt, f_srtP, f_all, f_sumI, f_min1, f_max1, f_tup, bt_idx, bd_idx, g_rng3, g_lrg1, e_bl, rev_map, List.length_map, Bool.or_true, Bool.or_false,    Option.isNone_some, Option.isNone_none, Bool.not_false, Bool.not_true,  List.map_cons, List.map_nil, List.length_cons, List.length_nil, List.replicate, List.cons_append, List.nil_append])
local macro_rules | `(tactic| trivial) => `(tactic| first | exact ⟨rfl, rfl⟩ | exact ⟨True.intro, True.intro⟩ | exact ⟨rfl, True.intro⟩ | exact ⟨True.intro, rfl⟩ | exact True.intro | rfl)
local macro_rules | `(tactic| subst_eqs) => `(tactic| (refine tob_cons ?_; and_intros))

/-! ### lateness -/
def lsR : Int → List Tw → List Int
  | _, [] => []
  | now, x :: r => (now + x.1 - x.2) :: lsR (now + x.1) r
theorem lateR_max : ∀ (r : List Tw) (now l : Int), lateR r = some l → now + l ∈ lsR now r ∧ ∀ y ∈ lsR now r, y ≤ now + l
  | [], now, l, h => by cases h
  | x :: r, now, l, h => by
    have h' : (match lateR r with
      | none => x.1 - x.2
      | some u => if x.1 - x.2 < x.1 + u then x.1 + u else x.1 - x.2) = l := Option.some.inj h
    show now + l ∈ (now + x.1 - x.2) :: lsR (now + x.1) r ∧ ∀ y ∈ (now + x.1 - x.2) :: lsR (now + x.1) r, y ≤ now + l
    cases hr : lateR r with
    | none =>
      have : r = [] := by
        cases r with
        | nil => rfl
        | cons _ _ => cases hr
      subst this
      rw [hr] at h'
      simp only at h'
      refine ⟨by rw [← h']; exact List.mem_cons.mpr (.inl (by omega)), fun y hy => ?_⟩
      rcases List.mem_cons.mp hy with rfl | hy
      · omega
      · cases hy
    | some u =>
      rw [hr] at h'
      simp only at h'
      obtain ⟨g1, g2⟩ := lateR_max r (now + x.1) u hr
      refine ⟨?_, fun y hy => ?_⟩
      · split at h'
        · refine List.mem_cons_of_mem _ ?_
          rw [← h', show now + (x.1 + u) = now + x.1 + u by omega]
          exact g1
        · rw [← h']; exact List.mem_cons.mpr (.inl (by omega))
      · rcases List.mem_cons.mp hy with rfl | hy
        · split at h' <;> omega
        · have := g2 y hy
          split at h' <;> omega
theorem lsR_get : ∀ (r : List Tw) (now : Int) (i : Nat) (h : i < r.length), (lsR now r)[i]? = some (now + ((r.take (i + 1)).map (·.1)).sum - r[i].2)
  | [], _, i, h => absurd h (Nat.not_lt_zero _)
  | x :: r, now, 0, h => by
    show some (now + x.1 - x.2) = _
    simp
  | x :: r, now, i + 1, h => by
    have h' : i < r.length := by simpa using h
    show (lsR (now + x.1) r)[i]? = _
    rw [lsR_get r (now + x.1) i h']
    simp only [List.take_succ_cons, List.map_cons, List.sum_cons, List.getElem_cons_succ]
    congr 1
    omega
theorem lsR_len : ∀ (r : List Tw) (now : Int), (lsR now r).length = r.length
  | [], _ => rfl
  | x :: r, now => by show _ + 1 = _ + 1; rw [lsR_len r]
def pk (T U : List Int) (k : Nat) : Tw := (T.getD k 0, U.getD k 0)
section
variable {μ : Mu} {n : Nat} {Q : D → Mu → Prop} {T U : List Int} {m : Nat}
theorem ends9 {row : List Nat} (hr : ∀ k ∈ row, k < T.length) (hl : row.length ≤ 12) (hT : T.length ≤ 12) (hq : ∀ E : List Int, E.length = T.length → (row.Nodup → ∀ i (h : i < row.length), E.getD row[i] 0 = ((row.take (i + 1)).map fun k => T.getD k 0).sum) → Q (.lst (E.map .int)) μ) :
    R.To (phi G.cs (fbs G.toGi) (n + 1) 58 [.lst (T.map .int), .lst (row.map eN)] μ) Q := by
  refine to_phi fb58 rfl ?_
  unfold ir58
  subst_eqs
  refine ⟨by decide, ?_⟩
  rw [rep_k]
  and_intros
  refine ⟨rep_ok (by omega), ?_⟩
  have e0 : (List.replicate ((T.length : Nat) : Int).toNat [D.int 0]).flatten = (List.replicate T.length (0 : Int)).map .int := by
    rw [rep_one, List.map_replicate, Int.toNat_natCast]
  rw [e0]
  subst_eqs
  subst_eqs
  refine for_to (fun i ρ μ' => ∃ (E : List Int) (s4 : Slot), ρ = [.val (.lst (T.map .int)), .val (.lst (row.map eN)), .own (E.map .int), .val (.int (((row.take i).map fun k => T.getD k 0).sum)), s4] ∧ μ' = μ ∧ E.length = T.length ∧ (row.Nodup → ∀ j (h : j < row.length), j < i → E.getD row[j] 0 = ((row.take (j + 1)).map fun k => T.getD k 0).sum)) _ 0 _ _ ⟨_, _, rfl, rfl, by simp, fun _ j h z => absurd z (Nat.not_lt_zero _)⟩ ?_ ?_
  · rintro i x ρ μ' hx ⟨E, s4, rfl, rfl, hE, hp⟩
    rw [Nat.zero_add] at hp ⊢
    have hi : i < row.length := by
      have := (List.getElem?_eq_some_iff.mp hx).1
      simpa using this
    have ex : x = eN row[i] := by
      rw [List.getElem?_map, List.getElem?_eq_getElem hi] at hx
      exact (Option.some.inj hx).symm
    subst ex
    have hk := hr row[i] (List.getElem_mem hi)
    refine ⟨[.val (.lst (T.map .int)), .val (.lst (row.map eN)), .own (E.map .int), .val (.int (((row.take i).map fun k => T.getD k 0).sum)), .val (eN row[i])], rfl, ?_⟩
    subst_eqs
    rw [at_get 0 hk]
    subst_eqs
    refine chg_own rfl ?_
    and_intros
    have es : ((row.take i).map fun k => T.getD k 0).sum + T.getD row[i] 0 = ((row.take (i + 1)).map fun k => T.getD k 0).sum := by
      rw [List.take_succ_eq_append_getElem hi, List.map_append, List.sum_append]
      simp
    rw [es]
    refine ⟨_, _, set_nat (xs := E.map .int) (k := row[i]) (d := .int (((row.take (i + 1)).map fun k => T.getD k 0).sum)) (by rw [List.length_map, hE]; exact hk), rfl, ?_⟩
    and_intros
    refine ⟨E.set row[i] (((row.take (i + 1)).map fun k => T.getD k 0).sum), _, by rw [List.map_set], by trivial, by rw [List.length_set]; exact hE, fun hn j hj hji => ?_⟩
    rw [List.getD_eq_getElem?_getD]
    by_cases e : j = i
    · subst e
      rw [List.getElem?_set_self (by rw [hE]; exact hk)]; rfl
    · have hne : row[i] ≠ row[j] := fun z => by
        have := List.pairwise_iff_getElem.mp hn j i hj hi (by omega)
        exact this z.symm
      rw [List.getElem?_set_ne hne, ← List.getD_eq_getElem?_getD]
      exact hp hn j hj (by omega)
  · rintro ρ μ' ⟨E, s4, rfl, rfl, hE, hp⟩
    dsimp only
    refine tob_cons ?_
    refine frz_to rfl ?_
    dsimp only
    subst_eqs
    refine hq E hE fun hn i hi => hp hn i hi (by rw [List.length_map]; omega)
theorem late9 {row : List Nat} (hr : row.Perm (List.range T.length)) (hT1 : 1 ≤ T.length) (hT : T.length ≤ 12) (hU : U.length = T.length) (hq : ∀ l, lateR (row.map (pk T U)) = some l → Q (.int l) μ) :
    R.To (phi G.cs (fbs G.toGi) (n + 2) 62 [.lst (T.map .int), .lst (U.map .int), .lst (row.map eN)] μ) Q := by
  have hrl : row.length = T.length := by rw [hr.length_eq, List.length_range]
  have hnd : row.Nodup := hr.nodup_iff.mpr List.nodup_range
  refine to_phi fb62 rfl ?_
  unfold ir62
  subst_eqs
  refine ends9 (fun k hk => List.mem_range.mp (hr.subset hk)) (by omega) hT fun E hE hp => ?_
  have hp := hp hnd
  and_intros
  subst_eqs
  rw [enu_zip]
  refine cmp_int _ (fun p => E.getD p.2 0 - p.1) (fun p hp => ⟨[.val (.lst (T.map .int)), .val (.lst (U.map .int)), .val (.lst (row.map eN)), .val (.lst (E.map .int)), .val (.int (p.2 : Nat)), .val (.int p.1)], rfl, ?_⟩) (by rw [List.length_zipIdx]; omega) ?_
  · obtain ⟨q1, q2⟩ := zip_get hp
    and_intros
    rw [at_get 0 (by rw [hE, ← hU]; exact q1)]
    and_intros
    trivial
  generalize hM : (U.zipIdx.map fun p => E.getD p.2 0 - p.1) = M
  have hMl : M.length = T.length := by rw [← hM, List.length_map, List.length_zipIdx, hU]
  have hMg : ∀ k, k < T.length → M[k]? = some (E.getD k 0 - U.getD k 0) := fun k hk => by
    rw [← hM, List.getElem?_map, List.getElem?_zipIdx, List.getElem?_eq_getElem (by omega)]
    rw [List.getD_eq_getElem?_getD, List.getD_eq_getElem?_getD, List.getElem?_eq_getElem (show k < U.length by omega)]
    simp
  cases M with
  | nil => simp at hMl; omega
  | cons e es =>
    show R.To (R.opt (biD .max μ [.lst ((e :: es).map .int)]) μ) _
    rw [f_max1]
    and_intros
    have hne : row.map (pk T U) ≠ [] := fun z => by
      have : (row.map (pk T U)).length = 0 := by rw [z]; rfl
      rw [List.length_map] at this
      omega
    obtain ⟨l, hl⟩ : ∃ l, lateR (row.map (pk T U)) = some l := by
      cases h : row.map (pk T U) with
      | nil => exact absurd h hne
      | cons _ _ => exact ⟨_, rfl⟩
    obtain ⟨g1, g2⟩ := lateR_max _ 0 l hl
    have ls : ∀ i (h : i < row.length), (lsR 0 (row.map (pk T U)))[i]? = some (E.getD row[i] 0 - U.getD row[i] 0) := fun i h => by
      rw [lsR_get _ 0 i (by rw [List.length_map]; exact h)]
      congr 1
      rw [hp i h, List.getElem_map, ← List.map_take, List.map_map]
      show 0 + _ - _ = _
      have : ((fun x : Tw => x.1) ∘ pk T U) = fun k => T.getD k 0 := rfl
      rw [this]
      show 0 + _ - U.getD row[i] 0 = _
      omega
    have e1 : maxI e es = l := by
      obtain ⟨m1, m2, _⟩ := maxI_le es e
      have mm := maxI_mem e es
      have a1 : l ≤ maxI e es := by
        obtain ⟨i, hi⟩ := List.mem_iff_getElem?.mp g1
        have hil : i < row.length := by
          have := (List.getElem?_eq_some_iff.mp hi).1
          rw [lsR_len, List.length_map] at this
          exact this
        rw [ls i hil] at hi
        have hk : row[i] < T.length := List.mem_range.mp (hr.subset (List.getElem_mem hil))
        have hm : (E.getD row[i] 0 - U.getD row[i] 0) ∈ e :: es := List.mem_iff_getElem?.mpr ⟨_, hMg _ hk⟩
        have hi' : E.getD row[i] 0 - U.getD row[i] 0 = 0 + l := Option.some.inj hi
        rw [hi'] at hm
        rcases List.mem_cons.mp hm with z | z
        · omega
        · have := m2 _ z
          omega
      have a2 : maxI e es ≤ l := by
        obtain ⟨k, hk⟩ := List.mem_iff_getElem?.mp mm
        have hkl : k < T.length := by
          have := (List.getElem?_eq_some_iff.mp hk).1
          omega
        rw [hMg k hkl] at hk
        have hkr : k ∈ row := hr.symm.subset (List.mem_range.mpr hkl)
        obtain ⟨i, hi, ei⟩ := List.getElem_of_mem hkr
        have hy := g2 (E.getD row[i] 0 - U.getD row[i] 0) (List.mem_iff_getElem?.mpr ⟨i, ls i hi⟩)
        rw [ei] at hy
        have := Option.some.inj hk
        omega
      omega
    rw [e1]
    exact hq l hl
theorem lateness9 (h : Tm T) (hU : Cn 0 100000 U) (hl : U.length = T.length) (hq : ∀ (row : List Nat) (l : Int), row.Perm (List.range T.length) → lateR (row.map (pk T U)) = some l → Q (.int l) μ) :
    R.To (phi G.cs (fbs G.toGi) (n + 7) 64 [.lst (T.map .int), .lst [], .lst (U.map .int)] μ) Q := by
  refine to_phi fb64 rfl ?_
  unfold ir64
  subst_eqs
  refine due9 h hU hl ?_
  and_intros
  subst_eqs
  refine bydues9 h.l2 hl fun row hr => ?_
  and_intros
  refine late9 hr h.l1 h.l2 hl fun l hl => ?_
  exact hq row l hr hl
/-! ### waiting -/
theorem fm_snoc (A : List Tw) (x : Tw) : fm (A ++ [x]) = fm A + x.2 * x.1 + (A.map (mw x)).sum := by
  rw [fm_perm (List.perm_append_comm : (A ++ [x]).Perm ([x] ++ A))]
  show x.2 * x.1 + (A.map (mw x)).sum + fm A = _
  omega
theorem getD_mem {l : List Int} {k : Nat} (h : k < l.length) : l.getD k 0 ∈ l := by
  rw [List.getD_eq_getElem?_getD, List.getElem?_eq_getElem h]
  exact List.getElem_mem h
theorem leastof9 (h : Tm T) (hU : Cn 0 1000 U) (hl : U.length = T.length) (hq : Q (.int (fm ((List.range T.length).map (pk T U)))) μ) : R.To (phi G.cs (fbs G.toGi) (n + 1) 59 [.lst (T.map .int), .lst (U.map .int)] μ) Q := by
  have h12 := h.l2
  have cT : ∀ k, k < T.length → 1 ≤ T.getD k 0 ∧ T.getD k 0 ≤ 1000 := fun k hk => h.c _ (getD_mem hk)
  have cU : ∀ k, k < T.length → 0 ≤ U.getD k 0 ∧ U.getD k 0 ≤ 1000 := fun k hk => hU.2 _ (getD_mem (by omega))
  refine to_phi fb59 rfl ?_
  unfold ir59
  subst_eqs
  subst_eqs
  rw [enu_zip]
  refine for_to (fun i ρ μ' => ∃ s3 s4 s5, ρ = [.val (.lst (T.map .int)), .val (.lst (U.map .int)), .val (.int (fm ((List.range i).map (pk T U)))), s3, s4, s5] ∧ μ' = μ) _ 0 _ _ ⟨_, _, _, rfl, rfl⟩ ?_ ?_
  · rintro i x ρ μ' hx ⟨s3, s4, s5, rfl, rfl⟩
    rw [Nat.zero_add]
    have hi : i < T.length := by
      have := (List.getElem?_eq_some_iff.mp hx).1
      simpa using this
    have ex : x = .tup [.int (i : Nat), .int (T.getD i 0)] := by
      rw [List.getElem?_map, List.getElem?_zipIdx, List.getElem?_eq_getElem hi] at hx
      rw [List.getD_eq_getElem?_getD, List.getElem?_eq_getElem hi]
      simpa using (Option.some.inj hx).symm
    subst ex
    have c1 := cT i hi
    have c2 := cU i hi
    refine ⟨[.val (.lst (T.map .int)), .val (.lst (U.map .int)), .val (.int (fm ((List.range i).map (pk T U)))), .val (.int (i : Nat)), .val (.int (T.getD i 0)), s5], rfl, ?_⟩
    subst_eqs
    rw [at_get 0 (show i < U.length by omega)]
    and_intros
    refine ⟨mul_sz (a := 20) (b := 20) (sz_of (by omega) (by omega)) (sz_of (by omega) (by omega)) (by omega), ?_⟩
    subst_eqs
    refine ⟨rngOk_of (by omega) (by omega), ?_⟩
    rw [rng0]
    refine for_to (fun j ρ μ'' => ∃ s5, ρ = [.val (.lst (T.map .int)), .val (.lst (U.map .int)), .val (.int (fm ((List.range i).map (pk T U)) + U.getD i 0 * T.getD i 0 + (((List.range j).map (pk T U)).map (mw (pk T U i))).sum)), .val (.int (i : Nat)), .val (.int (T.getD i 0)), s5] ∧ μ'' = μ') _ 0 _ _ ⟨s5, by simp, rfl⟩ ?_ ?_
    · rintro j x ρ μ'' hx ⟨s5, rfl, rfl⟩
      rw [Nat.zero_add]
      have hj : j < i := by
        have := (List.getElem?_eq_some_iff.mp hx).1
        simpa using this
      have ex : x = eN j := by
        rw [List.getElem?_map, List.getElem?_range hj] at hx
        exact (Option.some.inj hx).symm
      subst ex
      have c3 := cT j (by omega)
      have c4 := cU j (by omega)
      refine ⟨[.val (.lst (T.map .int)), .val (.lst (U.map .int)), .val (.int (fm ((List.range i).map (pk T U)) + U.getD i 0 * T.getD i 0 + (((List.range j).map (pk T U)).map (mw (pk T U i))).sum)), .val (.int (i : Nat)), .val (.int (T.getD i 0)), .val (eN j)], rfl, ?_⟩
      subst_eqs
      rw [at_get 0 (show i < U.length by omega)]
      and_intros
      rw [at_get 0 (show j < T.length by omega)]
      and_intros
      refine ⟨mul_sz (a := 20) (b := 20) (sz_of (by omega) (by omega)) (sz_of (by omega) (by omega)) (by omega), ?_⟩
      rw [at_get 0 (show j < U.length by omega)]
      and_intros
      refine ⟨mul_sz (a := 20) (b := 20) (sz_of (by omega) (by omega)) (sz_of (by omega) (by omega)) (by omega), ?_⟩
      refine ⟨.val (eN j), ?_, by trivial⟩
      have e : (((List.range (j + 1)).map (pk T U)).map (mw (pk T U i))).sum = (((List.range j).map (pk T U)).map (mw (pk T U i))).sum + mw (pk T U i) (pk T U j) := by
        rw [List.range_succ, List.map_append, List.map_append, List.sum_append]
        simp
      rw [e, ← Int.add_assoc]
      rfl
    · rintro ρ μ'' ⟨s5, rfl, rfl⟩
      rw [Nat.zero_add, List.length_map, List.length_range]
      dsimp only
      and_intros
      refine ⟨.val (.int (i : Nat)), .val (.int (T.getD i 0)), s5, ?_, by trivial⟩
      rw [List.range_succ, List.map_append]
      show _ = [_, _, Slot.val (.int (fm ((List.range i).map (pk T U) ++ [pk T U i]))), _, _, _]
      rw [fm_snoc]
      rfl
  · rintro ρ μ' ⟨s3, s4, s5, rfl, rfl⟩
    rw [Nat.zero_add, List.length_map, List.length_zipIdx]
    dsimp only
    subst_eqs
    exact hq
theorem waiting9 (h : Tm T) (hU : Cn 0 1000 U) (hl : U.length = T.length) (hq : Q (.int (fm ((List.range T.length).map (pk T U)))) μ) : R.To (phi G.cs (fbs G.toGi) (n + 7) 60 [.lst (T.map .int), .lst (U.map .int)] μ) Q := by
  refine to_phi fb60 rfl ?_
  unfold ir60
  subst_eqs
  refine jobs9 h hU hl ?_
  and_intros
  subst_eqs
  refine leastof9 h hU hl ?_
  exact hq
end
end Lk89

namespace Lk89
open PySem PySem.Spec PyProof.Rows L2 Z
local macro_rules | `(tactic| and_intros) => `(tactic| simp only [denS, denR, denE, denEs, denT, denTs, denBop, denN, denO, denC, denW, Exs.isNil, tos_seq, tos_bindR, tos_nx, tos_rt, tos_bk, tos_ct, to_bind, to_noex, to_ok, to_some, to_ite, to_fit, to_map, to_obind, tob_nil, var_z, var_o, var_s, set_z, set_s, Option.map_some, Option.bind_some, b_add, b_sub, b_mul, b_div, b_mod, b_pow, b_adds, b_addl, b_mull, c_lt, c_le, c_gt, c_ge, c_is, c_isn, c_eq, c_ne, e_int, t_bl, t_int, t_lst, t_non, i_tup, i_lst, i_loc, at0, at1, at2, l_lst, m_lst, l_scr, f_int, f_len, f_lens, f_lent, f_max2, f_min2, bt_bits, bd_bits, g_rng1, g_rng2, List.set_cons_zero, List.set_cons_succ, wipeR, s_lst, ld_lst, ok_lst, ok_tup, ok_int, ok_str, ok_bl, ok_non, is_ll, is_tt, is_lt, is_tl, is_li, is_ti, is_si, is_bi, is_ii, is_ss, is_ls, is_ts, f_isiL, f_lenT, f_srt, f_srtP, f_all, f_sumI, f_min1, f_max1, f_tup, bt_idx, bd_idx, g_rng3, g_lrg1, e_bl, rev_map, List.length_map, Bool.or_true, Bool.or_false,    Option.isNone_some, Option.isNone_none, Bool.not_false, Bool.not_true,  List.map_cons, List.map_nil, List.length_cons, List.length_nil, List.replicate, List.cons_append, List.nil_append])
local macro_rules | `(tactic| trivial) => `(tactic| first | exact ⟨rfl, rfl⟩ | exact ⟨True.intro, True.intro⟩ | exact ⟨rfl, True.intro⟩ | exact ⟨True.intro, rfl⟩ | exact True.intro | rfl)
local macro_rules | `(tactic| subst_eqs) => `(tactic| (refine tob_cons ?_; and_intros))

/-! ### around a due -/
def srA (m : Nat) (a b : Int) : List (Int × Int) := (isrt leP ((List.range m).map (fun (k : Nat) => (a * (k : Int), (0 : Int))) ++ (List.range m).map fun (k : Nat) => (b * ((k : Int) + 1), (1 : Int)))).take m
theorem sr_late : ∀ m, m ≤ 5 → (srA m 1000 1).map (·.1) = (List.range m).map fun (k : Nat) => (k : Int) := by
  intro m hm
  rcases m with _ | _ | _ | _ | _ | _ | m
  · decide
  · decide
  · decide
  · decide
  · decide
  · decide
  · omega
theorem sr_early : ∀ m, m ≤ 5 → (srA m 1 1000).map (·.1) = (List.range m).map fun (k : Nat) => (k : Int) := by
  intro m hm
  rcases m with _ | _ | _ | _ | _ | _ | m
  · decide
  · decide
  · decide
  · decide
  · decide
  · decide
  · omega
def aw : Nat → List Int → Int
  | _, [] => 0
  | k, r :: rs => (k : Int) * r + aw (k + 1) rs
theorem aw_lsum : ∀ (R : List Int) (k : Nat), aw (k + 1) R = lsum 1 k R
  | [], _ => rfl
  | r :: R, k => by
    show ((k + 1 : Nat) : Int) * r + aw (k + 1 + 1) R = r * ((k / 1 + 1 : Nat) : Int) + lsum 1 (k + 1) R
    rw [aw_lsum R (k + 1), Nat.div_one, Int.mul_comm]
section
variable {μ : Mu} {n : Nat} {Q : D → Mu → Prop} {T U : List Int} {m : Nat} {a b : Int}
theorem sides9 (hm : m ≤ 12) (ha : 1 ≤ a ∧ a ≤ 1000) (hb : 1 ≤ b ∧ b ≤ 1000) (hq : Q (.lst ((srA m a b).map eP)) μ) : R.To (phi G.cs (fbs G.toGi) (n + 1) 51 [.int (m : Nat), .int a, .int b] μ) Q := by
  have hl := len_rng m
  have ok : rngOk (m : Int) = true := rngOk_of (by omega) (by omega)
  refine to_phi fb51 rfl ?_
  unfold ir51
  subst_eqs
  refine ⟨ok, ?_⟩
  rw [rng0]
  refine cmp_all eN (fun k => eP (a * (k : Int), 0)) (fun k hk => ⟨[.val (.int (m : Nat)), .val (.int a), .val (.int b), .emp, .val (eN k)], rfl, ?_⟩) (by omega) ?_
  · have hk' := List.mem_range.mp hk
    and_intros
    exact ⟨mul_sz (a := 20) (b := 20) (sz_of (by omega) (by omega)) (sz_of (by omega) (by omega)) (by omega), by decide, rfl, by trivial⟩
  refine ⟨ok, ?_⟩
  refine cmp_all eN (fun k => eP (b * ((k : Int) + 1), 1)) (fun k hk => ⟨[.val (.int (m : Nat)), .val (.int a), .val (.int b), .emp, .val (eN k)], rfl, ?_⟩) (by omega) ?_
  · have hk' := List.mem_range.mp hk
    and_intros
    exact ⟨mul_sz (a := 20) (b := 20) (sz_of (by omega) (by omega)) (sz_of (by omega) (by omega)) (by omega), by decide, rfl, by trivial⟩
  have e : ((List.range m).map fun k : Nat => eP (a * (k : Int), 0)) ++ ((List.range m).map fun k : Nat => eP (b * ((k : Int) + 1), 1)) = ((List.range m).map (fun (k : Nat) => (a * (k : Int), (0 : Int))) ++ (List.range m).map fun (k : Nat) => (b * ((k : Int) + 1), (1 : Int))).map eP := by
    rw [List.map_append, List.map_map, List.map_map]; rfl
  refine ⟨decide_eq_true (by rw [List.length_map, List.length_map, hl]; show _ ≤ 2 ^ 24; omega), ?_⟩
  rw [e]
  subst_eqs
  show R.To (R.opt (some (D.lst (Z.cutD (List.map eP (isrt leP _)) none (some (m : Int))))) μ) _
  rw [cut_map, cut_pre (by rw [isrt_len, List.length_append, List.length_map, List.length_map, hl]; omega)]
  and_intros
  exact hq
theorem zip_aw : ∀ (R : List Int) (k : Nat), (((List.range' k R.length).map fun (k : Nat) => (k : Int)).zip R |>.map fun p => p.1 * p.2).sum = aw k R
  | [], _ => rfl
  | r :: R, k => by
    rw [List.length_cons, List.range'_succ, List.map_cons, List.zip_cons_cons, List.map_cons, List.sum_cons, zip_aw R (k + 1)]; rfl
theorem around9 (h : Tm T) (ha : 1 ≤ a ∧ a ≤ 1000) (hb : 1 ≤ b ∧ b ≤ 1000) (hs : (srA T.length a b).map (·.1) = (List.range T.length).map fun (k : Nat) => (k : Int)) (hq : Q (.int (aw 0 (dsc T))) μ) : R.To (phi G.cs (fbs G.toGi) (n + 7) 53 [.lst (T.map .int), .int a, .int b] μ) Q := by
  have h12 := h.l2
  refine to_phi fb53 rfl ?_
  unfold ir53
  subst_eqs
  refine rates9 h ha.1 ha.2 hb.1 hb.2 ?_
  and_intros
  subst_eqs
  refine sides9 h12 ha hb ?_
  and_intros
  refine cmp_int eP (·.1) (fun p hp => ⟨[.val (.lst (T.map .int)), .val (.int a), .val (.int b), .emp, .val (.int p.1), .val (.int p.2), .emp], rfl, ?_⟩) ?_ ?_
  · and_intros
    trivial
  · have := congrArg List.length hs
    rw [List.length_map, List.length_map, List.length_range] at this
    omega
  rw [hs]
  subst_eqs
  refine longest9 (by omega) ?_
  and_intros
  rw [zip_map]
  refine cmp_int _ (fun p => p.1 * -p.2.1) (fun p hp => ?_) ?_ ?_
  · have hp1 := (List.of_mem_zip hp).1
    have hp2 := (List.of_mem_zip hp).2
    obtain ⟨k, hk, e1⟩ := List.mem_map.mp hp1
    have hk' := List.mem_range.mp hk
    obtain ⟨k2, e2, hk2, e3⟩ := lpr_get hp2
    have hb := h.c _ (getD_mem hk2)
    refine ⟨[.val (.lst (T.map .int)), .val (.int a), .val (.int b), .val (.lst (((List.range T.length).map fun (k : Nat) => (k : Int)).map .int)), .val (.int p.1), .emp, .val (.int p.2.2)], rfl, ?_⟩
    and_intros
    rw [e2, at_get 0 hk2]
    and_intros
    rw [e3] at hb ⊢
    exact ⟨mul_sz (a := 20) (b := 20) (sz_of (by omega) (by omega)) (sz_of (by omega) (by omega)) (by omega), by trivial⟩
  · rw [List.length_zip, lpr_len]
    omega
  · and_intros
    have e : ((((List.range T.length).map fun (k : Nat) => (k : Int)).zip (lpr T)).map fun p => p.1 * -p.2.1) = (((List.range' 0 (dsc T).length).map fun (k : Nat) => (k : Int)).zip (dsc T)).map fun p => p.1 * p.2 := by
      rw [dsc_len, ← lpr_fst, List.zip_map_right, List.map_map, List.range_eq_range']
      rfl
    rw [e, zip_aw]
    exact hq
end
end Lk89

namespace Lk89
open PySem PySem.Spec PyProof.Rows L2 Z
local macro_rules | `(tactic| and_intros) => `(tactic| simp only [denS, denR, denE, denEs, denT, denTs, denBop, denN, denO, denC, denW, Exs.isNil, tos_seq, tos_bindR, tos_nx, tos_rt, tos_bk, tos_ct, to_bind, to_noex, to_ok, to_some, to_ite, to_fit, to_map, to_obind, tob_nil, var_z, var_o, var_s, set_z, set_s, Option.map_some, Option.bind_some, b_add, b_sub, b_mul, b_div, b_mod, b_pow, b_adds, b_addl, b_mull, c_lt, c_le, c_gt, c_ge, c_is, c_isn, c_eq, c_ne, e_int, t_bl, t_int, t_lst, t_non, i_tup, i_lst, i_loc, at0, at1, at2, l_lst, m_lst, l_scr, f_int, f_len, f_lens, f_lent, f_max2, f_min2, bt_bits, bd_bits, g_rng1, g_rng2, List.set_cons_zero, List.set_cons_succ, wipeR, s_lst, ld_lst, ok_lst, ok_tup, ok_int, ok_str, ok_bl, ok_non, is_ll, is_tt, is_lt, is_tl, is_li, is_ti, is_si, is_bi, is_ii, is_ss, is_ls, is_ts, f_isiL, f_lenT, f_srt, f_srtP, f_all, f_sumI, f_min1, f_max1, f_tup, bt_idx, bd_idx, g_rng3, g_lrg1, e_bl, rev_map, List.length_map, Bool.or_true, Bool.or_false,    Option.isNone_some, Option.isNone_none, Bool.not_false, Bool.not_true,  List.map_cons, List.map_nil, List.length_cons, List.length_nil, List.replicate, List.cons_append, List.nil_append])
local macro_rules | `(tactic| trivial) => `(tactic| first | exact ⟨rfl, rfl⟩ | exact ⟨True.intro, True.intro⟩ | exact ⟨rfl, True.intro⟩ | exact ⟨True.intro, rfl⟩ | exact True.intro | rfl)
local macro_rules | `(tactic| subst_eqs) => `(tactic| (refine tob_cons ?_; and_intros))

/-! ### a row far apart -/
def jn (T : List Int) : List Nat := (lpr T).map fun p => p.2.toNat
theorem jn_e (T : List Int) : ((lpr T).map fun p => D.int p.2) = (jn T).map eN := by
  unfold jn
  rw [List.map_map]
  refine List.map_congr_left fun p hp => ?_
  obtain ⟨k, e, _⟩ := lpr_get hp
  show D.int p.2 = D.int ((p.2.toNat : Nat) : Int)
  rw [e, Int.toNat_natCast]
theorem jn_len (T : List Int) : (jn T).length = T.length := by unfold jn; rw [List.length_map, lpr_len]
theorem jn_perm (T : List Int) : (jn T).Perm (List.range T.length) := by
  have h := (isrt_perm (le := leP) (T.zipIdx.map fun p => (-p.1, (p.2 : Int)))).map fun p => p.2.toNat
  rw [List.map_map] at h
  have e : (T.zipIdx.map ((fun p : Int × Int => p.2.toNat) ∘ fun p => (-p.1, (p.2 : Int)))) = List.range T.length := by
    have : (T.zipIdx.map ((fun p : Int × Int => p.2.toNat) ∘ fun p => (-p.1, (p.2 : Int)))) = T.zipIdx.map (·.2) := List.map_congr_left fun p _ => rfl
    rw [this, List.zipIdx_map_snd, List.range_eq_range']
  rw [e] at h
  exact h
theorem jn_get {T : List Int} : (jn T).map (fun k => T.getD k 0) = dsc T := by
  unfold jn
  rw [List.map_map, ← lpr_fst]
  refine List.map_congr_left fun p hp => ?_
  obtain ⟨k, e, _, h⟩ := lpr_get hp
  show T.getD p.2.toNat 0 = -p.1
  rw [e, Int.toNat_natCast, h]
def apP (m : Nat) : List (Int × Int) := isrt leP ((List.range m).map fun (k : Nat) => ((k : Int) * ((m : Int) - (k : Int)), (k : Int)))
def pn (m : Nat) : List Nat := (apP m).map fun p => p.2.toNat
theorem apP_mem {m : Nat} {p : Int × Int} (h : p ∈ apP m) : ∃ k : Nat, k < m ∧ p = ((k : Int) * ((m : Int) - (k : Int)), (k : Int)) := by
  obtain ⟨k, hk, rfl⟩ := List.mem_map.mp ((isrt_perm _).subset h)
  exact ⟨k, List.mem_range.mp hk, rfl⟩
theorem pn_e (m : Nat) : ((apP m).map fun p => D.int p.2) = (pn m).map eN := by
  unfold pn
  rw [List.map_map]
  refine List.map_congr_left fun p hp => ?_
  obtain ⟨k, _, rfl⟩ := apP_mem hp
  rfl
theorem pn_perm (m : Nat) : (pn m).Perm (List.range m) := by
  have h := (isrt_perm (le := leP) ((List.range m).map fun (k : Nat) => ((k : Int) * ((m : Int) - (k : Int)), (k : Int)))).map fun p => p.2.toNat
  rw [List.map_map] at h
  have e : ((List.range m).map ((fun p : Int × Int => p.2.toNat) ∘ fun (k : Nat) => ((k : Int) * ((m : Int) - (k : Int)), (k : Int)))) = List.range m := by
    conv => rhs; rw [← List.map_id (List.range m)]
    exact List.map_congr_left fun p _ => rfl
  rw [e] at h
  exact h
theorem pn_len (m : Nat) : (pn m).length = m := by rw [(pn_perm m).length_eq, List.length_range]
theorem apP_asc (m : Nat) : asc ((List.range m).map fun (k : Nat) => (k : Int) * ((m : Int) - (k : Int))) = (pn m).map fun (k : Nat) => (k : Int) * ((m : Int) - (k : Int)) := by
  symm
  refine asc_uniq ((pn_perm m).map _) ?_
  have e : (pn m).map (fun (k : Nat) => (k : Int) * ((m : Int) - (k : Int))) = (apP m).map (·.1) := by
    unfold pn
    rw [List.map_map]
    refine List.map_congr_left fun p hp => ?_
    obtain ⟨k, _, rfl⟩ := apP_mem hp
    rfl
  rw [e, List.pairwise_map]
  exact (isrt_srt leP_tot _).imp fun {a b} h => by rw [leP_iff] at h; omega
theorem all_eN : ∀ R : List D, (∀ d ∈ R, ∃ k, d = eN k) → ∃ row : List Nat, R = row.map eN
  | [], _ => ⟨[], rfl⟩
  | d :: R, h => by
    obtain ⟨k, rfl⟩ := h d (List.mem_cons_self ..)
    obtain ⟨row, rfl⟩ := all_eN R fun d hd => h d (List.mem_cons_of_mem _ hd)
    exact ⟨k :: row, rfl⟩
section
variable {μ : Mu} {n : Nat} {Q : D → Mu → Prop} {T U : List Int} {m : Nat} {a b : Int}
theorem together9 (h : Tm T) (hq : ∀ row : List Nat, row.length = T.length → (∀ i (h1 : i < (pn T.length).length) (h2 : i < (jn T).length), row.getD (pn T.length)[i] 0 = (jn T)[i]) → Q (.lst (row.map eN)) μ) : R.To (phi G.cs (fbs G.toGi) (n + 2) 55 [.lst (T.map .int)] μ) Q := by
  have h12 := h.l2
  have hl := len_rng T.length
  refine to_phi fb55 rfl ?_
  unfold ir55
  subst_eqs
  subst_eqs
  refine ⟨rngOk_of (by omega) (by omega), ?_⟩
  rw [rng0]
  refine cmp_all eN (fun k => eP ((k : Int) * ((T.length : Int) - (k : Int)), (k : Int))) (fun k hk => ⟨[.val (.lst (T.map .int)), .val (.int (T.length : Nat)), .emp, .emp, .emp, .emp, .emp, .val (eN k)], rfl, ?_⟩) (by omega) ?_
  · have hk' := List.mem_range.mp hk
    and_intros
    exact ⟨mul_sz (a := 20) (b := 20) (sz_of (by omega) (by omega)) (sz_of (by omega) (by omega)) (by omega), by trivial⟩
  have e : ((List.range T.length).map fun k : Nat => eP ((k : Int) * ((T.length : Int) - (k : Int)), (k : Int))) = ((List.range T.length).map fun (k : Nat) => ((k : Int) * ((T.length : Int) - (k : Int)), (k : Int))).map eP := by rw [List.map_map]; rfl
  rw [e]
  and_intros
  refine cmp_all eP (fun p => .int p.2) (fun p hp => ⟨[.val (.lst (T.map .int)), .val (.int (T.length : Nat)), .emp, .emp, .emp, .emp, .val (eP p), .emp], rfl, ?_⟩) (by rw [isrt_len, List.length_map]; omega) ?_
  · unfold eP
    and_intros
    trivial
  have e2 := pn_e T.length
  unfold apP at e2
  rw [e2]
  subst_eqs
  refine ⟨by decide, ?_⟩
  rw [rep_k]
  and_intros
  refine ⟨rep_ok (by omega), ?_⟩
  have e0 : (List.replicate ((T.length : Nat) : Int).toNat [D.non]).flatten = List.replicate T.length D.non := by
    rw [rep_one, Int.toNat_natCast]
  rw [e0]
  subst_eqs
  refine longest9 (by omega) ?_
  rw [jn_e]
  and_intros
  rw [zip_map]
  have hn : (pn T.length).Nodup := (pn_perm _).nodup_iff.mpr List.nodup_range
  have hpl := pn_len T.length
  have hjl := jn_len T
  refine for_to (fun i ρ μ' => ∃ (E : List D) (s4 s5 : Slot), ρ = [.val (.lst (T.map .int)), .val (.int (T.length : Nat)), .val (.lst ((pn T.length).map eN)), .own E, s4, s5, .emp, .emp] ∧ μ' = μ ∧ E.length = T.length ∧ (∀ j (h : j < (pn T.length).length) (h2 : j < (jn T).length), j < i → E[(pn T.length)[j]]? = some (eN (jn T)[j]))) _ 0 _ _ ⟨_, _, _, rfl, rfl, by simp, fun j _ _ z => absurd z (Nat.not_lt_zero _)⟩ ?_ ?_
  · rintro i x ρ μ' hx ⟨E, s4, s5, rfl, rfl, hE, hp⟩
    rw [Nat.zero_add] at hp ⊢
    have hi : i < T.length := by
      have := (List.getElem?_eq_some_iff.mp hx).1
      rw [List.length_map, List.length_zip] at this
      omega
    have hi1 : i < (pn T.length).length := by omega
    have hi2 : i < (jn T).length := by omega
    have ex : x = .tup [eN (jn T)[i], eN (pn T.length)[i]] := by
      rw [List.getElem?_map, List.getElem?_eq_getElem (by rw [List.length_zip]; omega), List.getElem_zip] at hx
      exact (Option.some.inj hx).symm
    subst ex
    have hk := List.mem_range.mp ((pn_perm T.length).subset (List.getElem_mem hi1))
    refine ⟨[.val (.lst (T.map .int)), .val (.int (T.length : Nat)), .val (.lst ((pn T.length).map eN)), .own E, .val (eN (jn T)[i]), .val (eN (pn T.length)[i]), .emp, .emp], rfl, ?_⟩
    subst_eqs
    refine chg_own rfl ?_
    and_intros
    refine ⟨_, _, set_nat (xs := E) (k := (pn T.length)[i]) (d := eN (jn T)[i]) (by rw [hE]; exact hk), rfl, ?_⟩
    and_intros
    refine ⟨E.set (pn T.length)[i] (eN (jn T)[i]), _, _, by trivial, by trivial, by rw [List.length_set]; exact hE, fun j hj hj2 hji => ?_⟩
    by_cases e : j = i
    · subst e
      rw [List.getElem?_set_self (by rw [hE]; exact hk)]
    · have hne : (pn T.length)[i] ≠ (pn T.length)[j] := fun z => by
        have := List.pairwise_iff_getElem.mp hn j i hj hi1 (by omega)
        exact this z.symm
      rw [List.getElem?_set_ne hne]
      exact hp j hj hj2 (by omega)
  · rintro ρ μ' ⟨E, s4, s5, rfl, rfl, hE, hp⟩
    rw [Nat.zero_add, List.length_map, List.length_zip] at hp
    dsimp only
    refine tob_cons ?_
    refine frz_to rfl ?_
    dsimp only
    subst_eqs
    obtain ⟨row, rfl⟩ := all_eN E fun d hd => by
      obtain ⟨q, hq, rfl⟩ := List.getElem_of_mem hd
      obtain ⟨j, hj, e⟩ := List.getElem_of_mem ((pn_perm T.length).symm.subset (List.mem_range.mpr (show q < T.length by omega)))
      have := hp j hj (by omega) (by omega)
      rw [e, List.getElem?_eq_getElem hq] at this
      exact ⟨_, Option.some.inj this⟩
    rw [List.length_map] at hE
    refine hq row hE fun i h1 h2 => ?_
    have := hp i h1 h2 (by omega)
    rw [List.getElem?_map] at this
    rw [List.getD_eq_getElem?_getD]
    cases hr : row[(pn T.length)[i]]? with
    | none => rw [hr] at this; cases this
    | some k =>
      rw [hr] at this
      have : ((k : Nat) : Int) = ((jn T)[i] : Nat) := by cases this; rfl
      show k = _
      omega
theorem spread9 {row : List Nat} (h : Tm T) (hr : row.length = T.length) (hk : ∀ k ∈ row, k < T.length) (hq : Q (.int (((List.range T.length).map fun (k : Nat) => T.getD (row.getD k 0) 0 * (k : Int) * ((T.length : Int) - (k : Int))).sum)) μ) : R.To (phi G.cs (fbs G.toGi) (n + 1) 54 [.lst (T.map .int), .lst (row.map eN)] μ) Q := by
  have h12 := h.l2
  refine to_phi fb54 rfl ?_
  unfold ir54
  subst_eqs
  subst_eqs
  subst_eqs
  rw [enu_zip]
  refine for_to (fun i ρ μ' => ∃ s4 s5, ρ = [.val (.lst (T.map .int)), .val (.lst (row.map eN)), .val (.int (((List.range i).map fun (k : Nat) => T.getD (row.getD k 0) 0 * (k : Int) * ((T.length : Int) - (k : Int))).sum)), .val (.int (row.length : Nat)), s4, s5] ∧ μ' = μ) _ 0 _ _ ⟨_, _, rfl, rfl⟩ ?_ ?_
  · rintro i x ρ μ' hx ⟨s4, s5, rfl, rfl⟩
    rw [Nat.zero_add]
    have hi : i < row.length := by
      have := (List.getElem?_eq_some_iff.mp hx).1
      simpa using this
    have ex : x = .tup [.int (i : Nat), eN (row.getD i 0)] := by
      rw [List.getElem?_map, List.getElem?_zipIdx, List.getElem?_eq_getElem hi] at hx
      rw [List.getD_eq_getElem?_getD, List.getElem?_eq_getElem hi]
      simpa using (Option.some.inj hx).symm
    subst ex
    have hki : row.getD i 0 < T.length := by
      rw [List.getD_eq_getElem?_getD, List.getElem?_eq_getElem hi]
      exact hk _ (List.getElem_mem hi)
    have c1 := h.c _ (getD_mem hki)
    refine ⟨[.val (.lst (T.map .int)), .val (.lst (row.map eN)), .val (.int (((List.range i).map fun (k : Nat) => T.getD (row.getD k 0) 0 * (k : Int) * ((T.length : Int) - (k : Int))).sum)), .val (.int (row.length : Nat)), .val (.int (i : Nat)), .val (eN (row.getD i 0))], rfl, ?_⟩
    subst_eqs
    rw [at_get 0 hki]
    have s1 : sz 40 (T.getD (row.getD i 0) 0 * (i : Int)) := sz_mul (a := 20) (b := 20) (sz_of (by omega) (by omega)) (sz_of (by omega) (by omega))
    and_intros
    refine ⟨mul_sz (a := 20) (b := 20) (sz_of (by omega) (by omega)) (sz_of (by omega) (by omega)) (by omega), mul_sz (a := 40) (b := 20) s1 (sz_of (by omega) (by omega)) (by omega), .val (.int (i : Nat)), .val (eN (row.getD i 0)), ?_, by trivial⟩
    rw [List.range_succ, List.map_append, List.sum_append, List.map_cons, List.map_nil, List.sum_cons, List.sum_nil, Int.add_zero, hr]
  · rintro ρ μ' ⟨s4, s5, rfl, rfl⟩
    rw [Nat.zero_add, List.length_map, List.length_zipIdx, hr]
    dsimp only
    subst_eqs
    exact hq
def apart (T : List Int) : Int := (((pn T.length).zip (dsc T)).map fun (p : Nat × Int) => ((p.1 : Int) * ((T.length : Int) - (p.1 : Int))) * p.2).sum
theorem apart9 (h : Tm T) (hq : Q (.int (apart T)) μ) : R.To (phi G.cs (fbs G.toGi) (n + 6) 56 [.lst (T.map .int)] μ) Q := by
  refine to_phi fb56 rfl ?_
  unfold ir56
  subst_eqs
  refine ctimes9 h ?_
  and_intros
  subst_eqs
  refine together9 h fun row hr hp => ?_
  and_intros
  have hpl := pn_len T.length
  have hjl := jn_len T
  refine spread9 h hr (fun k hk => ?_) ?_
  · obtain ⟨q, hq, rfl⟩ := List.getElem_of_mem hk
    obtain ⟨j, hj, e⟩ := List.getElem_of_mem ((pn_perm T.length).symm.subset (List.mem_range.mpr (show q < T.length by omega)))
    have := hp j hj (by omega)
    rw [e, List.getD_eq_getElem?_getD, List.getElem?_eq_getElem hq] at this
    show row[q] < _
    have e2 : row[q] = (jn T)[j] := this
    rw [e2]
    exact List.mem_range.mp ((jn_perm T).subset (List.getElem_mem _))
  · have e : (((List.range T.length).map fun (k : Nat) => T.getD (row.getD k 0) 0 * (k : Int) * ((T.length : Int) - (k : Int))).sum) = apart T := by
      rw [← perm_sum ((pn_perm T.length).map _)]
      unfold apart
      congr 1
      refine List.ext_getElem (by rw [List.length_map, List.length_map, List.length_zip, dsc_len]; omega) fun i h1 h2 => ?_
      rw [List.length_map] at h1
      rw [List.getElem_map, List.getElem_map, List.getElem_zip, hp i h1 (by omega)]
      have ed : (dsc T)[i]'(by rw [dsc_len]; omega) = T.getD (jn T)[i] 0 := by
        have := @jn_get T
        simp only [← this, List.getElem_map]
      rw [ed]
      show T.getD _ 0 * _ * _ = _
      rw [Int.mul_assoc, Int.mul_comm]
    rw [e]
    exact hq
end
end Lk89

namespace Lk89
open PySem PySem.Spec PyProof.Rows L2 Z
local macro_rules | `(tactic| and_intros) => `(tactic| simp only [denS, denR, denE, denEs, denT, denTs, denBop, denN, denO, denC, denW, Exs.isNil, tos_seq, tos_bindR, tos_nx, tos_rt, tos_bk, tos_ct, to_bind, to_noex, to_ok, to_some, to_ite, to_fit, to_map, to_obind, tob_nil, var_z, var_o, var_s, set_z, set_s, Option.map_some, Option.bind_some, b_add, b_sub, b_mul, b_div, b_mod, b_pow, b_adds, b_addl, b_mull, c_lt, c_le, c_gt, c_ge, c_is, c_isn, c_eq, c_ne, e_int, t_bl, t_int, t_lst, t_non, i_tup, i_lst, i_loc, at0, at1, at2, l_lst, m_lst, l_scr, f_int, f_len, f_lens, f_lent, f_max2, f_min2, bt_bits, bd_bits, g_rng1, g_rng2, List.set_cons_zero, List.set_cons_succ, wipeR, s_lst, ld_lst, ok_lst, ok_tup, ok_int, ok_str, ok_bl, ok_non, is_ll, is_tt, is_lt, is_tl, is_li, is_ti, is_si, is_bi, is_ii, is_ss, is_ls, is_ts, f_isiL, f_lenT, f_srt, f_srtP, f_all, f_sumI, f_min1, f_max1, f_tup, bt_idx, bd_idx, g_rng3, g_lrg1, e_bl, rev_map, List.length_map, Bool.or_true, Bool.or_false,    Option.isNone_some, Option.isNone_none, Bool.not_false, Bool.not_true,  List.map_cons, List.map_nil, List.length_cons, List.length_nil, List.replicate, List.cons_append, List.nil_append])
local macro_rules | `(tactic| trivial) => `(tactic| first | exact ⟨rfl, rfl⟩ | exact ⟨True.intro, True.intro⟩ | exact ⟨rfl, True.intro⟩ | exact ⟨True.intro, rfl⟩ | exact True.intro | rfl)
local macro_rules | `(tactic| subst_eqs) => `(tactic| (refine tob_cons ?_; and_intros))

/-! ### the longest first -/
theorem cut_preN {α : Type} {xs : List α} {k : Nat} : Z.cutD xs none (some (k : Int)) = xs.take k := by
  unfold Z.cutD
  rw [HT.sIx_none, HT.sIx_nat, Nat.sub_zero, List.drop_zero]
  by_cases h : k ≤ xs.length
  · rw [Nat.min_eq_left h]
  · rw [Nat.min_eq_right (by omega), List.take_of_length_le (by omega), List.take_of_length_le (by omega)]
theorem cut_sufN {α : Type} {xs : List α} {k : Nat} : Z.cutD xs (some (k : Int)) none = xs.drop k := by
  unfold Z.cutD
  rw [HT.sIx_none, HT.sIx_nat]
  by_cases h : k ≤ xs.length
  · rw [Nat.min_eq_left h]
    exact List.take_of_length_le (by rw [List.length_drop]; omega)
  · rw [Nat.min_eq_right (by omega), List.drop_of_length_le (by omega), List.drop_of_length_le (by omega)]; simp
def srn (c : List Nat) : List Nat := (isrt leI (c.map fun k : Nat => (k : Int))).map Int.toNat
theorem srn_perm (c : List Nat) : (srn c).Perm c := by
  have h := (isrt_perm (le := leI) (c.map fun k : Nat => (k : Int))).map Int.toNat
  rw [List.map_map] at h
  have e : c.map (Int.toNat ∘ fun k : Nat => (k : Int)) = c := by
    conv => rhs; rw [← List.map_id c]
    exact List.map_congr_left fun p _ => rfl
  rw [e] at h
  exact h
theorem f_srtN {c : List Nat} {μ : Mu} : biD .sorted μ [.lst (c.map eN)] = some (.lst ((srn c).map eN)) := by
  have e : c.map eN = (c.map fun k : Nat => (k : Int)).map D.int := by rw [List.map_map]; rfl
  rw [e, f_srt]
  congr 2
  unfold srn
  rw [List.map_map]
  refine List.map_congr_left fun p hp => ?_
  obtain ⟨k, _, rfl⟩ := List.mem_map.mp ((isrt_perm _).subset hp)
  rfl
def cks (r : Nat) : Nat → List Nat → List (List Nat)
  | 0, _ => []
  | _ + 1, [] => []
  | k + 1, x :: l => (x :: l).take r :: cks r k ((x :: l).drop r)
theorem cks_nil (r k : Nat) : cks r k [] = [] := by cases k <;> rfl
theorem cks_mem {r : Nat} (hr : 1 ≤ r) : ∀ (k : Nat) (l : List Nat) {c : List Nat}, c ∈ cks r k l → c ≠ [] ∧ c.Sublist l
  | 0, _, c, h => by cases h
  | k + 1, [], c, h => by cases h
  | k + 1, x :: l, c, h => by
    rcases List.mem_cons.mp h with rfl | h
    · refine ⟨?_, List.take_sublist _ _⟩
      obtain ⟨q, rfl⟩ : ∃ q, r = q + 1 := ⟨r - 1, by omega⟩
      simp
    · obtain ⟨h1, h2⟩ := cks_mem hr k _ h
      exact ⟨h1, h2.trans (List.drop_sublist _ _)⟩
theorem cks_blk {r : Nat} (hr : 1 ≤ r) (f : Nat → Int) : ∀ (k : Nat) (l : List Nat), ((cks r k l).map fun c => f (c.headD 0)).sum = blk r k (l.map f)
  | 0, _ => rfl
  | _ + 1, [] => rfl
  | k + 1, x :: l => by
    obtain ⟨q, rfl⟩ : ∃ q, r = q + 1 := ⟨r - 1, by omega⟩
    show f x + ((cks (q + 1) k (l.drop q)).map fun c => f (c.headD 0)).sum = f x + blk (q + 1) k ((l.map f).drop (q + 1 - 1))
    rw [cks_blk hr f k, Nat.add_sub_cancel, List.map_drop]
theorem max_head {f : Nat → Int} {c : List Nat} (hc : c ≠ []) (hs : (c.map f).Pairwise (fun a b => b ≤ a)) {d : List Nat} (hd : d.Perm c) : ∃ e es, d.map f = e :: es ∧ maxI e es = f (c.headD 0) := by
  cases c with
  | nil => exact absurd rfl hc
  | cons x c =>
    cases hD : d with
    | nil => rw [hD] at hd; exact absurd hd.symm.eq_nil (by simp)
    | cons y d' =>
      refine ⟨f y, d'.map f, rfl, ?_⟩
      obtain ⟨h1, h2, h3⟩ := maxI_le (d'.map f) (f y)
      have hm : ∀ z ∈ d, f z ≤ maxI (f y) (d'.map f) := fun z hz => by
        rw [hD] at hz
        rcases List.mem_cons.mp hz with rfl | hz
        · exact h1
        · exact h2 _ (List.mem_map_of_mem hz)
      have hx := hm x (hd.symm.subset (List.mem_cons_self ..))
      have hle : ∀ z ∈ d, f z ≤ f x := fun z hz => by
        rw [List.map_cons, List.pairwise_cons] at hs
        rcases List.mem_cons.mp (hd.subset hz) with rfl | hz
        · exact Int.le_refl _
        · exact hs.1 _ (List.mem_map_of_mem hz)
      show _ = f x
      rcases h3 with h3 | h3
      · have := hle y (by rw [hD]; exact List.mem_cons_self ..)
        omega
      · obtain ⟨z, hz, e⟩ := List.mem_map.mp h3
        have := hle z (by rw [hD]; exact List.mem_cons_of_mem _ hz)
        omega
section
variable {μ : Mu} {n : Nat} {Q : D → Mu → Prop} {T U : List Int} {m r : Nat} {a b : Int}
theorem longof9 {lot : List Nat} {e : Int} {es : List Int} (h1 : ∀ k ∈ lot, k < T.length) (hl : lot.length ≤ 1000) (he : (lot.map fun k => T.getD k 0) = e :: es) (hq : Q (.int (maxI e es)) μ) : R.To (phi G.cs (fbs G.toGi) (n + 1) 66 [.lst (T.map .int), .lst (lot.map eN)] μ) Q := by
  refine to_phi fb66 rfl ?_
  unfold ir66
  subst_eqs
  refine cmp_int eN (fun k => T.getD k 0) (fun k hk => ⟨[.val (.lst (T.map .int)), .val (.lst (lot.map eN)), .val (eN k)], rfl, ?_⟩) (by omega) ?_
  · and_intros
    rw [at_get 0 (h1 k hk)]
    and_intros
    trivial
  · rw [he]
    show R.To (R.opt (biD .max μ [.lst ((e :: es).map .int)]) μ) _
    rw [f_max1]
    and_intros
    exact hq
theorem fewest9 (h : Tm T) (hr : 1 ≤ r) (hq : Q (.lst ((cks r T.length (jn T)).map fun c => .lst ((srn c).map eN))) μ) : R.To (phi G.cs (fbs G.toGi) (n + 2) 68 [.lst (T.map .int), .int (r : Nat)] μ) Q := by
  have h12 := h.l2
  have h24 : sizeLine = 16777216 := by decide
  have hjl := jn_len T
  refine to_phi fb68 rfl ?_
  unfold ir68
  subst_eqs
  refine longest9' (by omega) ?_
  rw [jn_e]
  and_intros
  subst_eqs
  refine ⟨by decide, ?_⟩
  refine tob_cons ?_
  show RS.To (whlGo _ _ 1099511627776 _ _) _
  refine whl_to (fun c ρ μ' => ∃ (left : List Nat) (F : List (List Nat)) (k : Nat), ρ = [.val (.lst (T.map .int)), .val (.int (r : Nat)), .val (.lst (left.map eN)), .own (F.map fun c => .lst ((srn c).map eN))] ∧ μ' = μ ∧ left.length ≤ k ∧ left.length + F.length ≤ 12 ∧ cks r T.length (jn T) = F ++ cks r k left ∧ c = left.length) ?_ _ (jn T).length _ _ (by omega) ⟨jn T, [], T.length, rfl, rfl, by omega, by simp; omega, rfl, rfl⟩
  rintro c ρ μ' ⟨left, F, k, rfl, rfl, hk, hF, hp, rfl⟩
  and_intros
  rw [eq_nil fun x hx => by
    obtain ⟨k, _, rfl⟩ := List.mem_map.mp hx
    exact pln_int]
  and_intros
  cases left with
  | nil =>
    simp only [List.map_nil, List.isEmpty_nil, Bool.not_true]
    refine ⟨by decide, ?_⟩
    refine tob_cons ?_
    refine frz_to rfl ?_
    dsimp only
    subst_eqs
    rw [cks_nil, List.append_nil] at hp
    rw [← hp]
    exact hq
  | cons a left =>
    cases k with
    | zero => simp at hk
    | succ k =>
      have e3 : cks r (k + 1) (a :: left) = (a :: left).take r :: cks r k ((a :: left).drop r) := rfl
      rw [e3] at hp
      have hk' : left.length + 1 ≤ k + 1 := hk
      have hF' : left.length + 1 + F.length ≤ 12 := hF
      have hlen : (a :: left).length = left.length + 1 := rfl
      generalize hL : a :: left = L at *
      have e1 : (L.map eN).isEmpty = false := by rw [← hL]; rfl
      rw [e1]
      simp only [Bool.not_false]
      refine ⟨by decide, ?_⟩
      subst_eqs
      refine chg_own rfl ?_
      and_intros
      rw [cut_map, cut_preN, f_srtN]
      and_intros
      refine ⟨_, _, by rw [app_k, decide_eq_true (by rw [List.length_map]; omega)]; rfl, rfl, ?_⟩
      subst_eqs
      rw [cut_map, cut_sufN]
      and_intros
      refine ⟨(L.drop r).length, by rw [List.length_drop]; omega, L.drop r, F ++ [L.take r], k, by rw [List.map_append]; rfl, by trivial, by rw [List.length_drop]; omega, ?_, ?_, rfl⟩
      · rw [List.length_drop, List.length_append]
        show _ + (_ + 1) ≤ _
        omega
      · rw [List.append_assoc]
        exact hp
theorem least9 (h : Tm T) (h1 : 1 ≤ r) (h2 : r ≤ T.length) (hq : Q (.int (blk r T.length (dsc T))) μ) : R.To (phi G.cs (fbs G.toGi) (n + 7) 69 [.lst (T.map .int), .int (r : Nat)] μ) Q := by
  have h12 := h.l2
  refine to_phi fb69 rfl ?_
  unfold ir69
  subst_eqs
  refine room9 h (by omega) (by omega) ?_
  and_intros
  subst_eqs
  refine fewest9 h h1 ?_
  and_intros
  have hd := dsc_perm T
  have hs : (dsc T).Pairwise (fun a b => b ≤ a) := by
    unfold dsc
    exact List.pairwise_reverse.mpr (asc_srt T)
  have hlenc : (cks r T.length (jn T)).length ≤ 10000 := by
    have : ∀ (k : Nat) (l : List Nat), (cks r k l).length ≤ k := fun k => by
      induction k with
      | zero => exact fun _ => Nat.le_refl _
      | succ k ih =>
        intro l
        cases l with
        | nil => exact Nat.zero_le _
        | cons x l => exact Nat.succ_le_succ (ih _)
    have := this T.length (jn T)
    omega
  refine cmp_int (fun c => .lst ((srn c).map eN)) (fun c => T.getD (c.headD 0) 0) (fun c hc => ⟨[.val (.lst (T.map .int)), .val (.int (r : Nat)), .val (.lst ((srn c).map eN))], rfl, ?_⟩) (by omega) ?_
  · obtain ⟨c1, c2⟩ := cks_mem h1 _ _ hc
    have hsc : (c.map fun k => T.getD k 0).Pairwise (fun a b => b ≤ a) := by
      rw [← jn_get] at hs
      exact hs.sublist (c2.map _)
    obtain ⟨e, es, e1, e2⟩ := max_head c1 hsc (srn_perm c)
    and_intros
    refine longof9 (lot := srn c) (fun k hk => ?_) ?_ e1 ?_
    · exact List.mem_range.mp ((jn_perm T).subset (c2.subset ((srn_perm c).subset hk)))
    · have := c2.length_le
      rw [(srn_perm c).length_eq]
      have := jn_len T
      omega
    · rw [e2]
      trivial
  · and_intros
    rw [cks_blk h1 (fun k => T.getD k 0), jn_get]
    exact hq
end
end Lk89

namespace Lk89
open PySem PySem.Spec PyProof.Rows L2 Z
local macro_rules | `(tactic| and_intros) => `(tactic| simp only [denS, denR, denE, denEs, denT, denTs, denBop, denN, denO, denC, denW, Exs.isNil, tos_seq, tos_bindR, tos_nx, tos_rt, tos_bk, tos_ct, to_bind, to_noex, to_ok, to_some, to_ite, to_fit, to_map, to_obind, tob_nil, var_z, var_o, var_s, set_z, set_s, Option.map_some, Option.bind_some, b_add, b_sub, b_mul, b_div, b_mod, b_pow, b_adds, b_addl, b_mull, c_lt, c_le, c_gt, c_ge, c_is, c_isn, c_eq, c_ne, e_int, t_bl, t_int, t_lst, t_non, i_tup, i_lst, i_loc, at0, at1, at2, l_lst, m_lst, l_scr, f_int, f_len, f_lens, f_lent, f_max2, f_min2, bt_bits, bd_bits, g_rng1, g_rng2, List.set_cons_zero, List.set_cons_succ, wipeR, s_lst, ld_lst, ok_lst, ok_tup, ok_int, ok_str, ok_bl, ok_non, is_ll, is_tt, is_lt, is_tl, is_li, is_ti, is_si, is_bi, is_ii, is_ss, is_ls, is_ts, f_isiL, f_lenT, f_srt, f_srtP, f_all, f_sumI, f_min1, f_max1, f_tup, bt_idx, bd_idx, g_rng3, g_lrg1, e_bl, rev_map, List.length_map, Bool.or_true, Bool.or_false,    Option.isNone_some, Option.isNone_none, Bool.not_false, Bool.not_true,  List.map_cons, List.map_nil, List.length_cons, List.length_nil, List.replicate, List.cons_append, List.nil_append])
local macro_rules | `(tactic| trivial) => `(tactic| first | exact ⟨rfl, rfl⟩ | exact ⟨True.intro, True.intro⟩ | exact ⟨rfl, True.intro⟩ | exact ⟨True.intro, rfl⟩ | exact True.intro | rfl)
local macro_rules | `(tactic| subst_eqs) => `(tactic| (refine tob_cons ?_; and_intros))

/-! ### stretches -/
def sn (T : List Int) : List Nat := (spr T).map fun p => p.2.toNat
theorem sn_e (T : List Int) : ((spr T).map fun p => D.int p.2) = (sn T).map eN := by
  unfold sn
  rw [List.map_map]
  refine List.map_congr_left fun p hp => ?_
  obtain ⟨k, e, _⟩ := spr_get hp
  show D.int p.2 = D.int ((p.2.toNat : Nat) : Int)
  rw [e, Int.toNat_natCast]
theorem sn_len (T : List Int) : (sn T).length = T.length := by unfold sn; rw [List.length_map, spr_len]
theorem sn_perm (T : List Int) : (sn T).Perm (List.range T.length) := by
  have h := (isrt_perm (le := leP) (T.zipIdx.map fun p => (p.1, (p.2 : Int)))).map fun p => p.2.toNat
  rw [List.map_map] at h
  have e : (T.zipIdx.map ((fun p : Int × Int => p.2.toNat) ∘ fun p => (p.1, (p.2 : Int)))) = List.range T.length := by
    have : (T.zipIdx.map ((fun p : Int × Int => p.2.toNat) ∘ fun p => (p.1, (p.2 : Int)))) = T.zipIdx.map (·.2) := List.map_congr_left fun p _ => rfl
    rw [this, List.zipIdx_map_snd, List.range_eq_range']
  rw [e] at h
  exact h
theorem sn_get {T : List Int} : (sn T).map (fun k => T.getD k 0) = asc T := by
  unfold sn
  rw [List.map_map, ← spr_fst]
  refine List.map_congr_left fun p hp => ?_
  obtain ⟨k, e, _, h⟩ := spr_get hp
  show T.getD p.2.toNat 0 = p.1
  rw [e, Int.toNat_natCast, h]
def sP (T U : List Int) : List Tw := (sn T).map (pk T U)
theorem sP_len (T U : List Int) : (sP T U).length = T.length := by unfold sP; rw [List.length_map, sn_len]
theorem sP_perm (T U : List Int) : (sP T U).Perm ((List.range T.length).map (pk T U)) := (sn_perm T).map _
theorem sP_srt (T U : List Int) : (sP T U).Pairwise fun p q => p.1 ≤ q.1 := by
  have h := asc_srt T
  rw [← sn_get, List.pairwise_map] at h
  unfold sP
  rw [List.pairwise_map]
  exact h
theorem sP_mem {T U : List Int} {p : Tw} (h : p ∈ sP T U) : ∃ k, k < T.length ∧ p = pk T U k := by
  obtain ⟨k, hk, rfl⟩ := List.mem_map.mp h
  exact ⟨k, List.mem_range.mp ((sn_perm T).subset hk), rfl⟩
theorem sP_get {T U : List Int} {i : Nat} (h : i < T.length) : (sP T U).getD i (0, 0) = pk T U ((sn T).getD i 0) := by
  have hs := sn_len T
  unfold sP
  rw [List.getD_eq_getElem?_getD, List.getD_eq_getElem?_getD, List.getElem?_map, List.getElem?_eq_getElem (by omega)]
  rfl
theorem drop_split {α : Type} {P : List α} {a j : Nat} (h : a ≤ j) (hj : j < P.length) : P.drop a = (P.drop a).take (j - a) ++ P[j] :: P.drop (j + 1) := by
  conv => lhs; rw [← List.take_append_drop (j - a) (P.drop a)]
  rw [List.drop_drop, show a + (j - a) = j by omega, List.drop_eq_getElem_cons hj]
theorem split_drop {α : Type} {P A B : List α} {x : α} {a : Nat} (h : A ++ x :: B = P.drop a) (ha : a < P.length) : a + A.length < P.length ∧ P[a + A.length]? = some x ∧ B = P.drop (a + A.length + 1) ∧ A = (P.drop a).take A.length := by
  have hl := congrArg List.length h
  rw [List.length_append, List.length_cons, List.length_drop] at hl
  refine ⟨by omega, ?_, ?_, ?_⟩
  · rw [← List.getElem?_drop, ← h, List.getElem?_append_right (Nat.le_refl _), Nat.sub_self]; rfl
  · rw [show a + A.length + 1 = a + (A.length + 1) by omega, ← List.drop_drop, ← h, List.drop_append]
    simp
  · rw [← h, List.take_left']
    rfl
def cst (P : List Tw) (a : Nat) (L : List Int) (e : Nat) : Int := (P.getD (e - 1) (0, 0)).1 * wsum (P.drop a) + L.getD e 0
theorem dw_step {P : List Tw} {a : Nat} {L : List Int} {v : Int} (ha : a < P.length) (hL : ∀ e, a < e → e ≤ P.length → IsDw (P.drop e) (L.getD e 0)) (h1 : ∃ e, a < e ∧ e ≤ P.length ∧ v = cst P a L e) (h2 : ∀ e, a < e → e ≤ P.length → v ≤ cst P a L e) : IsDw (P.drop a) v := by
  refine ⟨?_, fun v' h => ?_⟩
  · obtain ⟨e, e1, e2, rfl⟩ := h1
    have hs := drop_split (P := P) (a := a) (j := e - 1) (by omega) (by omega)
    rw [show e - 1 + 1 = e by omega] at hs
    have hd := Dw.cons ((P.drop a).take (e - 1 - a)) P[e - 1] (P.drop e) _ (hL e e1 e2).1
    rw [← hs] at hd
    unfold cst
    rw [List.getD_eq_getElem?_getD, List.getElem?_eq_getElem (show e - 1 < P.length by omega)]
    exact hd
  · generalize hX : P.drop a = X at h
    cases h with
    | nil =>
      have := congrArg List.length hX
      rw [List.length_drop] at this
      simp at this
      omega
    | cons A x B v'' hB =>
      obtain ⟨e1, e2, e3, _⟩ := split_drop hX.symm ha
      have h3 := h2 (a + A.length + 1) (by omega) (by omega)
      unfold cst at h3
      rw [Nat.add_sub_cancel, List.getD_eq_getElem?_getD, e2] at h3
      rw [e3] at hB
      have h4 := (hL (a + A.length + 1) (by omega) (by omega)).2 _ hB
      rw [← hX]
      have h5 : (Option.some x).getD (0, 0) = x := rfl
      rw [h5] at h3
      omega
/-! ### the heap of stretches -/
def sC (k : Nat) (T U : List Int) : Cell := .obj 3 [(13, .lst (T.map .int)), (14, .lst (U.map .int)), (15, .lst ((sn T).map eN)), (16, .loc (k + 1)), (17, .loc (k + 2))]
def hS (μ : Mu) (T U : List Int) (L N : List D) : Mu := μ ++ [sC μ.length T U, .lst L, .lst N]
section
variable {μ : Mu} {n : Nat} {Q : D → Mu → Prop} {T U : List Int} {L N : List D} {x : List D}
theorem hS_at (k : Nat) : (hS μ T U L N)[μ.length + k]? = [sC μ.length T U, .lst L, .lst N][k]? := by
  unfold hS
  rw [List.getElem?_append_right (by omega), Nat.add_sub_cancel_left]
theorem hS_o : (hS μ T U L N)[μ.length]? = some (sC μ.length T U) := hS_at 0
theorem hS_l : (hS μ T U L N)[μ.length + 1]? = some (.lst L) := hS_at 1
theorem hS_n : (hS μ T U L N)[μ.length + 2]? = some (.lst N) := hS_at 2
theorem hS_sl : (hS μ T U L N).set (μ.length + 1) (.lst x) = hS μ T U x N := by
  unfold hS
  rw [List.set_append_right _ _ (by omega), Nat.add_sub_cancel_left]; rfl
theorem hS_sn : (hS μ T U L N).set (μ.length + 2) (.lst x) = hS μ T U L x := by
  unfold hS
  rw [List.set_append_right _ _ (by omega), Nat.add_sub_cancel_left]; rfl
theorem as_o : asO G.cs (hS μ T U L N) (.loc μ.length) = some (3, [(13, .lst (T.map .int)), (14, .lst (U.map .int)), (15, .lst ((sn T).map eN)), (16, .loc (μ.length + 1)), (17, .loc (μ.length + 2))]) := by
  show (match (hS μ T U L N)[μ.length]? with
    | some (.obj c fs) => some (c, fs)
    | _ => none) = _
  rw [hS_o]; rfl
theorem a_13 : attD G.cs 13 (hS μ T U L N) (.loc μ.length) = some (.lst (T.map .int)) := by unfold attD; rw [as_o]; rfl
theorem a_14 : attD G.cs 14 (hS μ T U L N) (.loc μ.length) = some (.lst (U.map .int)) := by unfold attD; rw [as_o]; rfl
theorem a_15 : attD G.cs 15 (hS μ T U L N) (.loc μ.length) = some (.lst ((sn T).map eN)) := by unfold attD; rw [as_o]; rfl
theorem a_16 : attD G.cs 16 (hS μ T U L N) (.loc μ.length) = some (.loc (μ.length + 1)) := by unfold attD; rw [as_o]; rfl
theorem a_17 : attD G.cs 17 (hS μ T U L N) (.loc μ.length) = some (.loc (μ.length + 2)) := by unfold attD; rw [as_o]; rfl
theorem m_25 : methF G.cs 25 (hS μ T U L N) (.loc μ.length) = some 72 := by unfold methF; rw [as_o]; rfl
theorem l_16 : asL (hS μ T U L N) (.loc (μ.length + 1)) = some L := by
  show (match (hS μ T U L N)[μ.length + 1]? with
    | some (.lst xs) => some xs
    | _ => none) = _
  rw [hS_l]
end
end Lk89

namespace Lk89
open PySem PySem.Spec PyProof.Rows L2 Z
local macro_rules | `(tactic| and_intros) => `(tactic| simp only [denS, denR, denE, denEs, denT, denTs, denBop, denN, denO, denC, denW, Exs.isNil, tos_seq, tos_bindR, tos_nx, tos_rt, tos_bk, tos_ct, to_bind, to_noex, to_ok, to_some, to_ite, to_fit, to_map, to_obind, tob_nil, var_z, var_o, var_s, set_z, set_s, Option.map_some, Option.bind_some, b_add, b_sub, b_mul, b_div, b_mod, b_pow, b_adds, b_addl, b_mull, c_lt, c_le, c_gt, c_ge, c_is, c_isn, c_eq, c_ne, e_int, t_bl, t_int, t_lst, t_non, i_tup, i_lst, i_loc, at0, at1, at2, l_lst, m_lst, l_scr, f_int, f_len, f_lens, f_lent, f_max2, f_min2, bt_bits, bd_bits, g_rng1, g_rng2, List.set_cons_zero, List.set_cons_succ, wipeR, s_lst, ld_lst, ok_lst, ok_tup, ok_int, ok_str, ok_bl, ok_non, is_ll, is_tt, is_lt, is_tl, is_li, is_ti, is_si, is_bi, is_ii, is_ss, is_ls, is_ts, f_isiL, f_lenT, f_srt, f_srtP, f_all, f_sumI, f_min1, f_max1, f_tup, bt_idx, bd_idx, g_rng3, g_lrg1, e_bl, rev_map, List.length_map, Bool.or_true, Bool.or_false,    Option.isNone_some, Option.isNone_none, Bool.not_false, Bool.not_true,  List.map_cons, List.map_nil, List.length_cons, List.length_nil, List.replicate, List.cons_append, List.nil_append])
local macro_rules | `(tactic| trivial) => `(tactic| first | exact ⟨rfl, rfl⟩ | exact ⟨True.intro, True.intro⟩ | exact ⟨rfl, True.intro⟩ | exact ⟨True.intro, rfl⟩ | exact True.intro | rfl)
local macro_rules | `(tactic| subst_eqs) => `(tactic| (refine tob_cons ?_; and_intros))

section
variable {μ : Mu} {n : Nat} {Q : D → Mu → Prop} {T U : List Int} {a : Nat}
theorem isNon_non : Z.isNon .non = true := rfl
theorem isNon_tup {xs : List D} : Z.isNon (.tup xs) = false := rfl
theorem wsum_bnd : ∀ (P : List Tw), (∀ p ∈ P, 0 ≤ p.2 ∧ p.2 ≤ 1000) → 0 ≤ wsum P ∧ wsum P ≤ 1000 * (P.length : Nat)
  | [], _ => by simp [wsum]
  | p :: P, h => by
    have h1 := h p (List.mem_cons_self ..)
    have h2 := wsum_bnd P fun q hq => h q (List.mem_cons_of_mem _ hq)
    have e : wsum (p :: P) = p.2 + wsum P := rfl
    rw [e, List.length_cons]
    omega
def Bst (P : List Tw) (a : Nat) (L : List Int) (i : Nat) (b : D) : Prop := (i = 0 ∧ b = .non) ∨ ∃ c e, b = .tup [.int c, eN e] ∧ a < e ∧ e ≤ a + i ∧ c = cst P a L e ∧ ∀ e', a < e' → e' ≤ a + i → c ≤ cst P a L e'
theorem fill9 (h : Tm T) (hU : Cn 0 1000 U) (hl : U.length = T.length) {L : List Int} {N : List D} (hLl : L.length = T.length + 1) (hN : N.length = T.length + 1) (ha : a < T.length) (hL : ∀ e, a < e → e ≤ T.length → IsDw ((sP T U).drop e) (L.getD e 0)) (hq : ∀ v d, IsDw ((sP T U).drop a) v → Q .non (hS μ T U ((L.set a v).map .int) (N.set a d))) : R.To (phi G.cs (fbs G.toGi) (n + 2) 72 [.loc μ.length, eN a] (hS μ T U (L.map .int) N)) Q := by
  have h12 := h.l2
  have hsl := sn_len T
  have hpl := sP_len T U
  refine to_phi fb72 rfl ?_
  unfold ir72
  subst_eqs
  subst_eqs
  rw [a_14]
  and_intros
  rw [a_15]
  and_intros
  rw [cut_map, cut_sufN]
  refine sumover9 (lot := (sn T).drop a) (fun k hk => ?_) (by rw [List.length_drop]; omega) ?_
  · rw [hl]
    exact List.mem_range.mp ((sn_perm T).subset (List.mem_of_mem_drop hk))
  and_intros
  have er : (((sn T).drop a).map fun k => U.getD k 0).sum = wsum ((sP T U).drop a) := by
    unfold wsum sP
    rw [← List.map_drop, List.map_map]; rfl
  rw [er]
  have hwb := wsum_bnd ((sP T U).drop a) fun p hp => by
    obtain ⟨k, hk, rfl⟩ := sP_mem (List.mem_of_mem_drop hp)
    exact hU.2 _ (getD_mem (by omega))
  rw [List.length_drop, hpl] at hwb
  generalize hW : wsum ((sP T U).drop a) = W at *
  subst_eqs
  rw [a_15]
  and_intros
  refine ⟨by rw [rngOk_of (by omega) (by omega)]; exact rngOk_of (by omega) (by omega), ?_⟩
  refine for_to (fun i ρ μ' => ∃ b s4 s5, ρ = [.val (.loc μ.length), .val (eN a), .val b, .val (.int W), s4, s5] ∧ μ' = hS μ T U (L.map .int) N ∧ Bst (sP T U) a L i b) _ 0 _ _ ⟨_, _, _, rfl, rfl, .inl ⟨rfl, rfl⟩⟩ ?_ ?_
  · rintro i x ρ μ' hx ⟨b, s4, s5, rfl, rfl, hb⟩
    rw [Nat.zero_add] at hb ⊢
    obtain ⟨hi, rfl⟩ := rng_at hx
    have hi' : i < T.length - a := by
      omega
    have e1 : D.int ((a : Int) + 1 + (i : Int)) = eN (a + 1 + i) := by
      show D.int _ = D.int ((a + 1 + i : Nat) : Int)
      congr 1
    rw [e1]
    refine ⟨[.val (.loc μ.length), .val (eN a), .val b, .val (.int W), .val (eN (a + 1 + i)), s5], rfl, ?_⟩
    subst_eqs
    rw [a_13]
    and_intros
    rw [a_15]
    and_intros
    have e2 : ((a + 1 + i : Nat) : Int) - 1 = ((a + i : Nat) : Int) := by omega
    rw [e2, at_get 0 (show a + i < (sn T).length by omega)]
    and_intros
    have hk : (sn T).getD (a + i) 0 < T.length := by
      rw [List.getD_eq_getElem?_getD, List.getElem?_eq_getElem (show a + i < (sn T).length by omega)]
      exact List.mem_range.mp ((sn_perm T).subset (List.getElem_mem _))
    rw [at_get 0 hk]
    and_intros
    have hkb := h.c _ (getD_mem hk)
    refine ⟨mul_sz (a := 20) (b := 20) (sz_of (by omega) (by omega)) (sz_of (by omega) (by omega)) (by omega), ?_⟩
    rw [a_16]
    and_intros
    rw [l_16]
    and_intros
    rw [at_get 0 (show a + 1 + i < L.length by omega)]
    and_intros
    have ec : T.getD ((sn T).getD (a + i) 0) 0 * W + L.getD (a + 1 + i) 0 = cst (sP T U) a L (a + 1 + i) := by
      unfold cst
      rw [hW, show a + 1 + i - 1 = a + i by omega, sP_get (by omega)]; rfl
    rw [ec]
    subst_eqs
    rcases hb with ⟨rfl, rfl⟩ | ⟨c, e, rfl, h1, h2, h3, h4⟩
    · rw [isNon_non]
      and_intros
      refine ⟨_, _, _, rfl, rfl, .inr ⟨_, _, rfl, by omega, by omega, rfl, fun e' g1 g2 => ?_⟩⟩
      rw [show e' = a + 1 + 0 by omega]
      exact Int.le_refl _
    · rw [isNon_tup]
      and_intros
      by_cases z : cst (sP T U) a L (a + 1 + i) < c
      · rw [decide_eq_true z]
        and_intros
        refine ⟨_, _, _, rfl, rfl, .inr ⟨_, _, rfl, by omega, by omega, rfl, fun e' g1 g2 => ?_⟩⟩
        by_cases g : e' ≤ a + i
        · have := h4 e' g1 g
          omega
        · rw [show e' = a + 1 + i by omega]
          exact Int.le_refl _
      · rw [decide_eq_false z]
        and_intros
        refine ⟨_, _, _, rfl, rfl, .inr ⟨_, _, rfl, h1, by omega, h3, fun e' g1 g2 => ?_⟩⟩
        by_cases g : e' ≤ a + i
        · exact h4 e' g1 g
        · rw [show e' = a + 1 + i by omega]
          omega
  · rintro ρ μ' ⟨b, s4, s5, rfl, rfl, hb⟩
    rw [Nat.zero_add, rng_len, hsl] at hb
    have hm : (((T.length : Nat) : Int) + 1 - ((a : Int) + 1)).toNat = T.length - a := by omega
    rw [hm] at hb
    rcases hb with ⟨z, _⟩ | ⟨c, e, rfl, h1, h2, h3, h4⟩
    · omega
    subst_eqs
    refine chg_ref ?_
    and_intros
    rw [a_16]
    and_intros
    refine ⟨_, _, rfl, hS_l, ?_⟩
    and_intros
    refine ⟨_, _, _, hS_l, set_nat (k := a) (by rw [List.length_map]; omega), rfl, ?_⟩
    rw [hS_sl]
    refine chg_ref ?_
    and_intros
    rw [a_17]
    and_intros
    refine ⟨_, _, rfl, hS_n, ?_⟩
    and_intros
    refine ⟨_, _, _, hS_n, set_nat (k := a) (by omega), rfl, ?_⟩
    rw [hS_sn, ← List.map_set]
    refine hq c (eN e) (dw_step (by omega) (fun e h1 h2 => hL e h1 (by omega)) ⟨e, h1, by omega, h3⟩ fun e' g1 g2 => h4 e' g1 (by omega))
end
end Lk89

namespace Lk89
open PySem PySem.Spec PyProof.Rows L2 Z
local macro_rules | `(tactic| and_intros) => `(tactic| simp only [denS, denR, denE, denEs, denT, denTs, denBop, denN, denO, denC, denW, Exs.isNil, tos_seq, tos_bindR, tos_nx, tos_rt, tos_bk, tos_ct, to_bind, to_noex, to_ok, to_some, to_ite, to_fit, to_map, to_obind, tob_nil, var_z, var_o, var_s, set_z, set_s, Option.map_some, Option.bind_some, b_add, b_sub, b_mul, b_div, b_mod, b_pow, b_adds, b_addl, b_mull, c_lt, c_le, c_gt, c_ge, c_is, c_isn, c_eq, c_ne, e_int, t_bl, t_int, t_lst, t_non, i_tup, i_lst, i_loc, at0, at1, at2, l_lst, m_lst, l_scr, f_int, f_len, f_lens, f_lent, f_max2, f_min2, bt_bits, bd_bits, g_rng1, g_rng2, List.set_cons_zero, List.set_cons_succ, wipeR, s_lst, ld_lst, ok_lst, ok_tup, ok_int, ok_str, ok_bl, ok_non, is_ll, is_tt, is_lt, is_tl, is_li, is_ti, is_si, is_bi, is_ii, is_ss, is_ls, is_ts, f_isiL, f_lenT, f_srt, f_srtP, f_all, f_sumI, f_min1, f_max1, f_tup, bt_idx, bd_idx, g_rng3, g_lrg1, e_bl, rev_map, List.length_map, Bool.or_true, Bool.or_false,    Option.isNone_some, Option.isNone_none, Bool.not_false, Bool.not_true,  List.map_cons, List.map_nil, List.length_cons, List.length_nil, List.replicate, List.cons_append, List.nil_append])
local macro_rules | `(tactic| trivial) => `(tactic| first | exact ⟨rfl, rfl⟩ | exact ⟨True.intro, True.intro⟩ | exact ⟨rfl, True.intro⟩ | exact ⟨True.intro, rfl⟩ | exact True.intro | rfl)
local macro_rules | `(tactic| subst_eqs) => `(tactic| (refine tob_cons ?_; and_intros))

section
variable {μ : Mu} {n : Nat} {Q : D → Mu → Prop} {T U : List Int} {a : Nat} {fs : List (Nat × D)} {r : List Cell} {f : Nat} {d : D}
theorem st_h (hf : (fldOf G.cs 3).contains f = true) (hl : fs.length < 1000) : storeD G.cs f d (μ ++ .obj 3 fs :: r) (.loc μ.length) = some (μ ++ .obj 3 (Z.putF f d fs) :: r) := by
  have e : (μ ++ .obj 3 fs :: r)[μ.length]? = some (.obj 3 fs) := by
    rw [List.getElem?_append_right (Nat.le_refl _), Nat.sub_self]; rfl
  rw [s_gen e hf hl, List.set_append_right _ _ (Nat.le_refl _), Nat.sub_self]; rfl
theorem isdw_nil : IsDw [] 0 := ⟨.nil, fun v h => by
  generalize hX : ([] : List Tw) = X at h
  cases h with
  | nil => exact Int.le_refl _
  | cons A x B v hB => cases A <;> cases hX⟩
theorem dwn_at {lo : Int} {m i : Nat} {x : D} (h : (dwnItems lo m)[i]? = some x) : i < m ∧ x = .int (lo + (i : Int) * -1) := dwn_items h
theorem dwn_len {lo : Int} {m : Nat} : (dwnItems lo m).length = m := by unfold dwnItems; simp
theorem cs3 : G.cs[3]? = some ⟨3, 71, [(25, 72)], [13, 14, 15, 16, 17], false⟩ := rfl
theorem sinit9 (h : Tm T) (hU : Cn 0 1000 U) (hl : U.length = T.length) (hq : ∀ (L : List Int) N, L.length = T.length + 1 → IsDw (sP T U) (L.getD 0 0) → Q .non (hS μ T U (L.map .int) N)) : R.To (phi G.cs (fbs G.toGi) (n + 3) 71 [.loc μ.length, .lst (T.map .int), .lst (U.map .int)] (μ ++ [.obj 3 []])) Q := by
  have h12 := h.l2
  have hpl := sP_len T U
  refine to_phi fb71 rfl ?_
  unfold ir71
  subst_eqs
  rw [st_h]
  case hf => decide +kernel
  case hl => simp [Z.putF]
  subst_eqs
  rw [st_h]
  case hf => decide +kernel
  case hl => simp [Z.putF]
  subst_eqs
  refine shortest9 (by omega) ?_
  rw [sn_e]
  and_intros
  rw [st_h]
  case hf => decide +kernel
  case hl => simp [Z.putF]
  subst_eqs
  refine ⟨by decide, ?_⟩
  rw [rep_k]
  and_intros
  refine ⟨rep_ok (k := T.length + 1) (by omega), ?_⟩
  have e0 : (List.replicate (((T.length : Nat) : Int) + 1).toNat [D.int 0]).flatten = (List.replicate (T.length + 1) (0 : Int)).map .int := by
    rw [rep_one, List.map_replicate]; rfl
  have e1 : (List.replicate (((T.length : Nat) : Int) + 1).toNat [D.non]).flatten = List.replicate (T.length + 1) D.non := by
    rw [rep_one]; rfl
  rw [e0, List.append_assoc, List.cons_append, List.nil_append, st_h, List.length_append]
  case hf => decide +kernel
  case hl => simp [Z.putF]
  subst_eqs
  refine ⟨by decide, ?_⟩
  rw [rep_k]
  and_intros
  refine ⟨rep_ok (k := T.length + 1) (by omega), ?_⟩
  rw [e1, List.append_assoc, List.cons_append, List.cons_append, List.nil_append, st_h, List.length_append]
  case hf => decide +kernel
  case hl => simp [Z.putF]
  subst_eqs
  refine ⟨by rw [rngOk_of (by omega) (by omega)]; decide, ?_⟩
  refine for_to (fun i ρ μ' => ∃ (L : List Int) (N : List D) (s3 : Slot), ρ = [.val (.loc μ.length), .val (.lst (T.map .int)), .val (.lst (U.map .int)), s3] ∧ μ' = hS μ T U (L.map .int) N ∧ L.length = T.length + 1 ∧ N.length = T.length + 1 ∧ ∀ e, T.length - i ≤ e → e ≤ T.length → IsDw ((sP T U).drop e) (L.getD e 0)) _ 0 _ _ ⟨List.replicate (T.length + 1) 0, List.replicate (T.length + 1) .non, _, rfl, ?_, by simp, by simp, fun e g1 g2 => ?_⟩ ?_ ?_
  · rfl
  · rw [show e = T.length by omega, List.drop_of_length_le (by omega), List.getD_eq_getElem?_getD, List.getElem?_replicate_of_lt (by omega)]
    exact isdw_nil
  · rintro i x ρ μ' hx ⟨L, N, s3, rfl, rfl, g1, g2, hp⟩
    rw [Nat.zero_add] at hp ⊢
    obtain ⟨hi, rfl⟩ := dwn_at hx
    have hi' : i < T.length := by omega
    have e1 : D.int ((T.length : Int) - 1 + (i : Int) * -1) = eN (T.length - 1 - i) := by
      show D.int _ = D.int ((T.length - 1 - i : Nat) : Int)
      congr 1
      omega
    rw [e1]
    refine ⟨[.val (.loc μ.length), .val (.lst (T.map .int)), .val (.lst (U.map .int)), .val (eN (T.length - 1 - i))], rfl, ?_⟩
    subst_eqs
    rw [m_25]
    and_intros
    refine fill9 h hU hl g1 g2 (by omega) (fun e q1 q2 => hp e (by omega) q2) fun v d hv => ?_
    and_intros
    refine ⟨L.set (T.length - 1 - i) v, N.set (T.length - 1 - i) d, _, rfl, rfl, by rw [List.length_set]; exact g1, by rw [List.length_set]; exact g2, fun e q1 q2 => ?_⟩
    by_cases z : e = T.length - 1 - i
    · rw [z, List.getD_eq_getElem?_getD, List.getElem?_set_self (by omega)]
      exact hv
    · rw [List.getD_eq_getElem?_getD, List.getElem?_set_ne (by omega), ← List.getD_eq_getElem?_getD]
      exact hp e (by omega) q2
  · rintro ρ μ' ⟨L, N, s3, rfl, rfl, g1, g2, hp⟩
    rw [Nat.zero_add, dwn_len] at hp
    have := hp 0 (by omega) (by omega)
    rw [List.drop_zero] at this
    and_intros
    exact hq L N g1 this
theorem weighed9 (h : Tm T) (hU : Cn 0 1000 U) (hl : U.length = T.length) (hq : ∀ (v : Int) (μ' : Mu), IsDw (sP T U) v → (∀ (k : Nat) (c : Cell), μ[k]? = some c → μ'[k]? = some c) → Q (.int v) μ') : R.To (phi G.cs (fbs G.toGi) (n + 6) 73 [.lst (T.map .int), .lst (U.map .int)] μ) Q := by
  refine to_phi fb73 rfl ?_
  unfold ir73
  subst_eqs
  refine ctimes9 h ?_
  and_intros
  subst_eqs
  refine weights9 hU hl ?_
  and_intros
  subst_eqs
  refine mk_cell cs3 rfl ?_
  refine sinit9 h hU hl fun L N g1 hv => ⟨rfl, ?_⟩
  rw [a_16]
  and_intros
  rw [l_16]
  and_intros
  have := at_get (f := D.int) (l := L) (k := 0) 0 (by omega)
  rw [show ((0 : Nat) : Int) = 0 from rfl] at this
  rw [this]
  and_intros
  refine hq _ _ hv fun k c e => ?_
  have := (List.getElem?_eq_some_iff.mp e).1
  unfold hS
  rw [List.getElem?_append_left this]
  exact e
end
end Lk89

namespace Lk89
open PySem PySem.Spec PyProof.Rows L2 Z
local macro_rules | `(tactic| and_intros) => `(tactic| simp only [denS, denR, denE, denEs, denT, denTs, denBop, denN, denO, denC, denW, Exs.isNil, tos_seq, tos_bindR, tos_nx, tos_rt, tos_bk, tos_ct, to_bind, to_noex, to_ok, to_some, to_ite, to_fit, to_map, to_obind, tob_nil, var_z, var_o, var_s, set_z, set_s, Option.map_some, Option.bind_some, b_add, b_sub, b_mul, b_div, b_mod, b_pow, b_adds, b_addl, b_mull, c_lt, c_le, c_gt, c_ge, c_is, c_isn, c_eq, c_ne, e_int, t_bl, t_int, t_lst, t_non, i_tup, i_lst, i_loc, at0, at1, at2, l_lst, m_lst, l_scr, f_int, f_len, f_lens, f_lent, f_max2, f_min2, bt_bits, bd_bits, g_rng1, g_rng2, List.set_cons_zero, List.set_cons_succ, wipeR, s_lst, ld_lst, ok_lst, ok_tup, ok_int, ok_str, ok_bl, ok_non, is_ll, is_tt, is_lt, is_tl, is_li, is_ti, is_si, is_bi, is_ii, is_ss, is_ls, is_ts, f_isiL, f_lenT, f_srt, f_srtP, f_all, f_sumI, f_min1, f_max1, f_tup, bt_idx, bd_idx, g_rng3, g_lrg1, e_bl, rev_map, List.length_map, Bool.or_true, Bool.or_false,    Option.isNone_some, Option.isNone_none, Bool.not_false, Bool.not_true,  List.map_cons, List.map_nil, List.length_cons, List.length_nil, List.replicate, List.cons_append, List.nil_append])
local macro_rules | `(tactic| trivial) => `(tactic| first | exact ⟨rfl, rfl⟩ | exact ⟨True.intro, True.intro⟩ | exact ⟨rfl, True.intro⟩ | exact ⟨True.intro, rfl⟩ | exact True.intro | rfl)
local macro_rules | `(tactic| subst_eqs) => `(tactic| (refine tob_cons ?_; and_intros))

/-! ### late batches -/
theorem lt_nil {o : Option Int} (h : Lt [] o) : o = none := by
  generalize hX : ([] : List Tw) = X at h
  cases h with
  | nil => rfl
  | cons A x B o hB => cases A <;> cases hX
theorem min_mind {A : List Tw} {p : Tw} {x : Int} {xs : List Int} (h : x :: xs = (A ++ [p]).map (·.2)) : minI x xs = mind p.2 A := by
  obtain ⟨a1, a2, a3⟩ := minI_le xs x
  obtain ⟨b1, b2, b3⟩ := mind_le A p.2
  have hm : ∀ y ∈ x :: xs, minI x xs ≤ y := fun y hy => by
    rcases List.mem_cons.mp hy with rfl | hy
    · exact a1
    · exact a2 y hy
  have hn : ∀ y ∈ (A ++ [p]).map (·.2), mind p.2 A ≤ y := fun y hy => by
    obtain ⟨q, hq, rfl⟩ := List.mem_map.mp hy
    rcases List.mem_append.mp hq with hq | hq
    · exact b2 q hq
    · rw [List.mem_singleton.mp hq]; exact b1
  have hx : minI x xs ∈ x :: xs := by
    rcases a3 with a3 | a3
    · rw [a3]; exact List.mem_cons_self ..
    · exact List.mem_cons_of_mem _ a3
  have hy : mind p.2 A ∈ (A ++ [p]).map (·.2) := by
    rcases b3 with b3 | ⟨q, hq, b3⟩
    · rw [b3]; exact List.mem_map_of_mem (List.mem_append_right _ (List.mem_singleton.mpr rfl))
    · rw [b3]; exact List.mem_map_of_mem (List.mem_append_left _ hq)
  have h1 := hn _ (h ▸ hx)
  have h2 := hm _ (h ▸ hy)
  omega
theorem lv_mono {A : List Tw} {a : Tw} {u v : Int} (h : u ≤ v) : lv A a (some u) ≤ lv A a (some v) := by
  unfold lv
  simp only
  split <;> split <;> omega
abbrev Ob : Type := Option Int × List D
def eB (b : Ob) : D := .tup [eI b.1, .lst b.2]
def lct (P : List Tw) (a : Nat) (B : List Ob) (e : Nat) : Int := lv ((P.drop a).take (e - 1 - a)) (P.getD (e - 1) (0, 0)) (B.getD e (none, [])).1
theorem lt_step {P : List Tw} {a : Nat} {B : List Ob} {v : Int} (ha : a < P.length) (hB : ∀ e, a < e → e ≤ P.length → IsLt (P.drop e) (B.getD e (none, [])).1) (h1 : ∃ e, a < e ∧ e ≤ P.length ∧ v = lct P a B e) (h2 : ∀ e, a < e → e ≤ P.length → v ≤ lct P a B e) : IsLt (P.drop a) (some v) := by
  refine ⟨?_, fun v0 v' hv h => ?_⟩
  · obtain ⟨e, e1, e2, rfl⟩ := h1
    have hs := drop_split (P := P) (a := a) (j := e - 1) (by omega) (by omega)
    rw [show e - 1 + 1 = e by omega] at hs
    have hd := Lt.cons ((P.drop a).take (e - 1 - a)) P[e - 1] (P.drop e) _ (hB e e1 e2).1
    rw [← hs] at hd
    unfold lct
    rw [List.getD_eq_getElem?_getD, List.getElem?_eq_getElem (show e - 1 < P.length by omega)]
    exact hd
  · cases hv
    generalize hX : P.drop a = X at h
    generalize hY : some v' = Y at h
    cases h with
    | nil => cases hY
    | cons A x C o hC =>
      cases hY
      obtain ⟨e1, e2, e3, e4⟩ := split_drop hX.symm ha
      have h3 := h2 (a + A.length + 1) (by omega) (by omega)
      obtain ⟨b1, b2⟩ := hB (a + A.length + 1) (by omega) (by omega)
      unfold lct at h3
      rw [Nat.add_sub_cancel, List.getD_eq_getElem?_getD, e2, Nat.add_sub_cancel_left, ← e4] at h3
      have h5 : (Option.some x).getD (0, 0) = x := rfl
      rw [h5] at h3
      rw [e3] at hC
      refine Int.le_trans h3 ?_
      by_cases z : P.drop (a + A.length + 1) = []
      · rw [z] at hC b1
        rw [lt_nil hC, lt_nil b1]
        exact Int.le_refl _
      · obtain ⟨u, hu⟩ := lt_some b1 z
        obtain ⟨u', hu'⟩ := lt_some hC z
        rw [hu', hu]
        rw [hu'] at hC
        exact lv_mono (b2 u u' hu hC)
def Lst (P : List Tw) (a m : Nat) (B : List Ob) (i : Nat) (b : D) : Prop := (i = 0 ∧ b = .non) ∨ ∃ c xs e, b = eB (some c, xs) ∧ xs.length ≤ m - a ∧ a < e ∧ e ≤ a + i ∧ c = lct P a B e ∧ ∀ e', a < e' → e' ≤ a + i → c ≤ lct P a B e'
section
variable {μ : Mu} {n : Nat} {Q : D → Mu → Prop} {T U : List Int} {a : Nat}
theorem i_eB {b : Ob} {k : Int} : idxD μ (eB b) (.int k) = atI [eI b.1, .lst b.2] k := rfl
theorem isNon_eI {o : Option Int} : Z.isNon (eI o) = o.isNone := by cases o <;> rfl
theorem isNon_eB {b : Ob} : Z.isNon (eB b) = false := rfl
abbrev it74 : Bk := .cons (.ife (.bop .Or (.cons (.val (.cmp .Is (.var 5) (.cst .non))) (.cons (.val (.cmp .Lt (.var 8) (.idx (.var 5) (.cst (.int 0))))) .nil))) (.cons (.nam 5 (.e (.tup (.cons (.var 8) (.cons (.bin .Add (.new (.dis (.cons (.blt .sorted (.cons (.slc (.var 2) (.so (.var 4)) (.so (.var 6))) .nil)) .nil))) (.idx (.idx (.var 3) (.var 6)) (.cst (.int 1)))) .nil))))) .nil) .nil) .nil
theorem tail74 {B : List Ob} {at' en j : Nat} {s0 s1 s7 s9 : Slot} {b : D} {w : Int} {E : Ek} (h1 : at' + 1 + j = en) (h2 : en ≤ T.length) (h12 : T.length ≤ 12) (hbl : en < B.length) (hw : w = lct (sP T U) at' B en) (hx : (B.getD en (none, [])).2.length ≤ T.length - en) (hb : Lst (sP T U) at' T.length B j b) (hE : ∀ b', Lst (sP T U) at' T.length B (j + 1) b' → E.nx [s0, s1, .val (.lst ((sn T).map eN)), .own (B.map eB), .val (eN at'), .val b', .val (eN en), s7, .val (.int w), s9] μ) :
    RS.To (denB G.cs (phi G.cs (fbs G.toGi) (n + 1)) it74 [s0, s1, .val (.lst ((sn T).map eN)), .own (B.map eB), .val (eN at'), .val b, .val (eN en), s7, .val (.int w), s9] μ) E := by
  have hsl := sn_len T
  unfold it74
  have new : ∀ xs : List D, xs = (B.getD en (none, [])).2 → ∀ E2 : Ek, (∀ ys, ys.length ≤ T.length - at' → E2.nx [s0, s1, .val (.lst ((sn T).map eN)), .own (B.map eB), .val (eN at'), .val (eB (some w, ys)), .val (eN en), s7, .val (.int w), s9] μ) → RS.To (denB G.cs (phi G.cs (fbs G.toGi) (n + 1)) (.cons (.nam 5 (.e (.tup (.cons (.var 8) (.cons (.bin .Add (.new (.dis (.cons (.blt .sorted (.cons (.slc (.var 2) (.so (.var 4)) (.so (.var 6))) .nil)) .nil))) (.idx (.idx (.var 3) (.var 6)) (.cst (.int 1)))) .nil))))) .nil) [s0, s1, .val (.lst ((sn T).map eN)), .own (B.map eB), .val (eN at'), .val b, .val (eN en), s7, .val (.int w), s9] μ) E2 := by
    intro xs hxs E2 hE2
    subst_eqs
    rw [cut_map, cut_mid (by omega) (by omega), f_srtN]
    and_intros
    refine ⟨by decide, ?_⟩
    rw [at_get (none, []) hbl]
    and_intros
    rw [i_eB, at1]
    and_intros
    refine ⟨decide_eq_true (by rw [← hxs] at hx ⊢; show _ ≤ 2 ^ 24; simp; omega), ?_⟩
    refine ⟨by decide, hE2 _ ?_⟩
    rw [List.length_cons]
    omega
  subst_eqs
  rcases hb with ⟨rfl, rfl⟩ | ⟨c, xs, e, rfl, g0, g1, g2, g3, g4⟩
  · rw [isNon_non]
    and_intros
    refine new _ rfl _ fun ys hy => hE _ (.inr ⟨w, ys, en, rfl, hy, by omega, by omega, hw, fun e' q1 q2 => ?_⟩)
    rw [show e' = en by omega, hw]
    exact Int.le_refl _
  · rw [isNon_eB]
    and_intros
    rw [i_eB, at0]
    and_intros
    rw [eI_some]
    and_intros
    by_cases z : w < c
    · rw [decide_eq_true z]
      and_intros
      refine new _ rfl _ fun ys hy => hE _ (.inr ⟨w, ys, en, rfl, hy, by omega, by omega, hw, fun e' q1 q2 => ?_⟩)
      by_cases g : e' ≤ at' + j
      · have := g4 e' q1 g
        omega
      · rw [show e' = en by omega, hw]
        exact Int.le_refl _
    · rw [decide_eq_false z]
      and_intros
      refine hE _ (.inr ⟨c, xs, e, rfl, g0, g1, by omega, g3, fun e' q1 q2 => ?_⟩)
      by_cases g : e' ≤ at' + j
      · exact g4 e' q1 g
      · rw [show e' = en by omega, ← hw]
        omega
theorem late9from (h : Tm T) (hU : Cn 0 100000 U) (hl : U.length = T.length) (hq : ∀ v xs, IsLt (sP T U) (some v) → Q (eB (some v, xs)) μ) : R.To (phi G.cs (fbs G.toGi) (n + 2) 74 [.lst (T.map .int), .lst (U.map .int)] μ) Q := by
  have h24 : sizeLine = 16777216 := by decide
  have h12 := h.l2
  have h1' := h.l1
  have hsl := sn_len T
  have hpl := sP_len T U
  refine to_phi fb74 rfl ?_
  unfold ir74
  subst_eqs
  refine shortest9 (by omega) ?_
  rw [sn_e]
  and_intros
  subst_eqs
  refine ⟨by decide, by decide, ?_⟩
  rw [rep_k]
  and_intros
  have e0 : (List.replicate ((((sn T).length : Nat) : Int) + 1).toNat [D.tup [D.non, D.lst []]]).flatten = (List.replicate (T.length + 1) ((none, []) : Ob)).map eB := by
    rw [rep_one, List.map_replicate, hsl]; rfl
  rw [e0]
  refine ⟨by decide, rep_ok (k := (sn T).length + 1) (by omega), ?_⟩
  subst_eqs
  refine ⟨by rw [rngOk_of (by omega) (by omega)]; decide, ?_⟩
  refine for_to (fun i ρ μ' => ∃ (B : List Ob) (s4 s5 s6 s7 s8 s9 : Slot), ρ = [.val (.lst (T.map .int)), .val (.lst (U.map .int)), .val (.lst ((sn T).map eN)), .own (B.map eB), s4, s5, s6, s7, s8, s9] ∧ μ' = μ ∧ B.length = T.length + 1 ∧ ∀ e, T.length - i ≤ e → e ≤ T.length → IsLt ((sP T U).drop e) (B.getD e (none, [])).1 ∧ (B.getD e (none, [])).2.length ≤ T.length - e) _ 0 _ _ ⟨List.replicate (T.length + 1) (none, []), _, _, _, _, _, _, rfl, rfl, by simp, fun e g1 g2 => ?_⟩ ?_ ?_
  · rw [show e = T.length by omega, List.drop_of_length_le (by omega), List.getD_eq_getElem?_getD, List.getElem?_replicate_of_lt (by omega)]
    exact ⟨⟨.nil, fun v v' z => (by cases z)⟩, Nat.zero_le _⟩
  · rintro i x ρ μ' hx ⟨B, s4, s5, s6, s7, s8, s9, rfl, rfl, g1, hp⟩
    rw [Nat.zero_add] at hp ⊢
    obtain ⟨hi, rfl⟩ := dwn_at hx
    have hi' : i < T.length := by omega
    generalize hat : T.length - 1 - i = at'
    have e1 : D.int (((sn T).length : Int) - 1 + (i : Int) * -1) = eN at' := by
      show D.int _ = D.int (at' : Int)
      congr 1
      omega
    rw [e1]
    refine ⟨[.val (.lst (T.map .int)), .val (.lst (U.map .int)), .val (.lst ((sn T).map eN)), .own (B.map eB), .val (eN at'), s5, s6, s7, s8, s9], rfl, ?_⟩
    subst_eqs
    subst_eqs
    refine ⟨by rw [rngOk_of (by omega) (by omega)]; exact rngOk_of (by omega) (by omega), ?_⟩
    refine for_to (fun j ρ μ'' => ∃ (b : D) (s6 s7 s8 s9 : Slot), ρ = [.val (.lst (T.map .int)), .val (.lst (U.map .int)), .val (.lst ((sn T).map eN)), .own (B.map eB), .val (eN at'), .val b, s6, s7, s8, s9] ∧ μ'' = μ' ∧ Lst (sP T U) at' T.length B j b) _ 0 _ _ ⟨_, _, _, _, _, rfl, rfl, .inl ⟨rfl, rfl⟩⟩ ?_ ?_
    · rintro j x ρ μ'' hx ⟨b, s6, s7, s8, s9, rfl, rfl, hb⟩
      rw [Nat.zero_add] at hb ⊢
      obtain ⟨hj, rfl⟩ := rng_at hx
      have hj' : j < T.length - at' := by omega
      generalize hen : at' + 1 + j = en
      have e1 : D.int ((at' : Int) + 1 + (j : Int)) = eN en := by
        show D.int _ = D.int (en : Int)
        congr 1
        omega
      rw [e1]
      refine ⟨[.val (.lst (T.map .int)), .val (.lst (U.map .int)), .val (.lst ((sn T).map eN)), .own (B.map eB), .val (eN at'), .val b, .val (eN en), s7, s8, s9], rfl, ?_⟩
      subst_eqs
      have e2 : ((en : Nat) : Int) - 1 = ((en - 1 : Nat) : Int) := by omega
      have hk : (sn T).getD (en - 1) 0 < T.length := by
        rw [List.getD_eq_getElem?_getD, List.getElem?_eq_getElem (show en - 1 < (sn T).length by omega)]
        exact List.mem_range.mp ((sn_perm T).subset (List.getElem_mem _))
      rw [e2, at_get 0 (show en - 1 < (sn T).length by omega)]
      and_intros
      rw [at_get 0 hk]
      subst_eqs
      rw [cut_map, cut_mid (by omega) (by omega)]
      generalize hlot : ((sn T).drop at').take (en - at') = lot
      have hlotl : lot.length = en - at' := by rw [← hlot, List.length_take, List.length_drop]; omega
      refine cmp_int eN (fun k => U.getD k 0) (fun k hk => ⟨[.val (.lst (T.map .int)), .val (.lst (U.map .int)), .val (.lst ((sn T).map eN)), .own (B.map eB), .val (eN at'), .val b, .val (eN en), .val (.int (T.getD ((sn T).getD (en - 1) 0) 0)), s8, .val (eN k)], rfl, ?_⟩) (by omega) ?_
      · have hkm : k ∈ sn T := by
          rw [← hlot] at hk
          exact List.mem_of_mem_drop (List.mem_of_mem_take hk)
        have := List.mem_range.mp ((sn_perm T).subset hkm)
        and_intros
        rw [at_get 0 (show k < U.length by omega)]
        and_intros
        trivial
      generalize hds : (lot.map fun k => U.getD k 0) = ds
      have hdl : ds.length = lot.length := by rw [← hds, List.length_map]
      obtain ⟨d, ds', rfl⟩ : ∃ e es, ds = e :: es := by
        cases ds with
        | nil => simp at hdl; omega
        | cons e es => exact ⟨e, es, rfl⟩
      show R.To (R.opt (biD .min μ'' [.lst ((d :: ds').map .int)]) μ'') _
      have hmin : minI d ds' = mind (pk T U ((sn T).getD (en - 1) 0)).2 (((sP T U).drop at').take (en - 1 - at')) := by
        refine min_mind ?_
        rw [← hds, ← hlot]
        have ep : pk T U ((sn T).getD (en - 1) 0) = (sP T U)[en - 1]'(by omega) := by
          rw [← sP_get (by omega), List.getD_eq_getElem?_getD, List.getElem?_eq_getElem (by omega)]; rfl
        have eq : ((sP T U).drop at').take (en - 1 - at') ++ [(sP T U)[en - 1]'(by omega)] = ((sP T U).drop at').take (en - at') := by
          have := List.take_succ_eq_append_getElem (l := (sP T U).drop at') (i := en - 1 - at') (by rw [List.length_drop]; omega)
          rw [show en - 1 - at' + 1 = en - at' by omega] at this
          rw [this, List.getElem_drop]
          simp only [show at' + (en - 1 - at') = en - 1 by omega]
        rw [ep, eq]
        unfold sP
        rw [← List.map_drop, ← List.map_take, List.map_map]; rfl
      rw [f_min1, hmin]
      obtain ⟨hB1, hB2⟩ := hp en (by omega) (by omega)
      have hbl : en < B.length := by omega
      have hlc : lct (sP T U) at' B en = lv (((sP T U).drop at').take (en - 1 - at')) (pk T U ((sn T).getD (en - 1) 0)) (B.getD en (none, [])).1 := by
        unfold lct
        rw [sP_get (by omega)]
      have htl : lot.length ≤ 12 := by omega
      have hlot' : isrt leI (lot.map fun k : Nat => (k : Int)) = isrt leI (lot.map fun k : Nat => (k : Int)) := rfl
      subst_eqs
      rw [at_get (none, []) hbl]
      and_intros
      rw [i_eB, at0]
      and_intros
      rw [isNon_eI]
      have htl := fun (E : Ek) w hw s7' => tail74 (E := E) (T := T) (U := U) (μ := μ'') (n := n) (s0 := .val (.lst (T.map .int))) (s1 := .val (.lst (U.map .int))) (s7 := s7') (s9 := s9) (B := B) (at' := at') (en := en) (j := j) (b := b) (w := w) hen (by omega) h12 hbl hw hB2 hb
      unfold it74 at htl
      cases hbo : (B.getD en (none, [])).1 with
      | none =>
        rw [hbo] at hlc
        and_intros
        exact htl _ _ hlc.symm _ fun b' hb' => ⟨_, _, _, _, _, rfl, rfl, hb'⟩
      | some u =>
        rw [hbo] at hlc
        subst_eqs
        rw [at_get (none, []) hbl]
        and_intros
        rw [i_eB, at0, hbo, eI_some]
        and_intros
        exact htl _ _ hlc.symm _ fun b' hb' => ⟨_, _, _, _, _, rfl, rfl, hb'⟩
    · rintro ρ μ'' ⟨b, s6, s7, s8, s9, rfl, rfl, hb⟩
      rw [Nat.zero_add, rng_len] at hb
      rcases hb with ⟨z, _⟩ | ⟨c, xs, e, rfl, q0, q1, q2, q3, q4⟩
      · omega
      subst_eqs
      refine chg_own rfl ?_
      and_intros
      refine ⟨_, _, set_nat (k := at') (by rw [List.length_map]; omega), rfl, ?_⟩
      rw [← List.map_set]
      refine ⟨B.set at' (some c, xs), _, _, _, _, _, _, rfl, by trivial, by rw [List.length_set]; exact g1, fun e' p1 p2 => ?_⟩
      by_cases z : e' = at'
      · rw [z, List.getD_eq_getElem?_getD, List.getElem?_set_self (by omega)]
        exact ⟨lt_step (by omega) (fun e p1 p2 => (hp e (by omega) (by omega)).1) ⟨e, q1, by omega, q3⟩ fun e' p1 p2 => q4 e' p1 (by omega), q0⟩
      · rw [List.getD_eq_getElem?_getD, List.getElem?_set_ne (by omega), ← List.getD_eq_getElem?_getD]
        exact hp e' (by omega) p2
  · rintro ρ μ' ⟨B, s4, s5, s6, s7, s8, s9, rfl, rfl, g1, hp⟩
    rw [Nat.zero_add, dwn_len] at hp
    obtain ⟨p1, p2⟩ := hp 0 (by omega) (by omega)
    rw [List.drop_zero] at p1
    obtain ⟨v, hv⟩ := lt_some p1.1 (by intro z; rw [z] at hpl; simp at hpl; omega)
    subst_eqs
    have := at_get (f := eB) (l := B) (k := 0) (none, []) (by omega)
    rw [show ((0 : Nat) : Int) = 0 from rfl] at this
    rw [this]
    and_intros
    have eb : B.getD 0 (none, []) = (some v, (B.getD 0 (none, [])).2) := by rw [← hv]
    rw [eb]
    rw [hv] at p1
    exact hq v _ p1
theorem leastlate9 (h : Tm T) (hU : Cn 0 100000 U) (hl : U.length = T.length) (hq : ∀ v, IsLt (sP T U) (some v) → Q (.int v) μ) : R.To (phi G.cs (fbs G.toGi) (n + 6) 75 [.lst (T.map .int), .lst (U.map .int)] μ) Q := by
  refine to_phi fb75 rfl ?_
  unfold ir75
  subst_eqs
  refine ctimes9 h ?_
  and_intros
  subst_eqs
  refine dues9 hU hl ?_
  and_intros
  subst_eqs
  refine late9from h hU hl fun v xs hv => ?_
  and_intros
  rw [i_eB, at0, eI_some]
  and_intros
  exact hq v hv
end
end Lk89

namespace Lk89
open PySem PySem.Spec PyProof.Rows L2 Z
local macro_rules | `(tactic| and_intros) => `(tactic| simp only [denS, denR, denE, denEs, denT, denTs, denBop, denN, denO, denC, denW, Exs.isNil, tos_seq, tos_bindR, tos_nx, tos_rt, tos_bk, tos_ct, to_bind, to_noex, to_ok, to_some, to_ite, to_fit, to_map, to_obind, tob_nil, var_z, var_o, var_s, set_z, set_s, Option.map_some, Option.bind_some, b_add, b_sub, b_mul, b_div, b_mod, b_pow, b_adds, b_addl, b_mull, c_lt, c_le, c_gt, c_ge, c_is, c_isn, c_eq, c_ne, e_int, t_bl, t_int, t_lst, t_non, i_tup, i_lst, i_loc, at0, at1, at2, l_lst, m_lst, l_scr, f_int, f_len, f_lens, f_lent, f_max2, f_min2, bt_bits, bd_bits, g_rng1, g_rng2, List.set_cons_zero, List.set_cons_succ, wipeR, s_lst, ld_lst, ok_lst, ok_tup, ok_int, ok_str, ok_bl, ok_non, is_ll, is_tt, is_lt, is_tl, is_li, is_ti, is_si, is_bi, is_ii, is_ss, is_ls, is_ts, f_isiL, f_lenT, f_srt, f_srtP, f_all, f_sumI, f_min1, f_max1, f_tup, bt_idx, bd_idx, g_rng3, g_lrg1, e_bl, rev_map, List.length_map, Bool.or_true, Bool.or_false,    Option.isNone_some, Option.isNone_none, Bool.not_false, Bool.not_true,  List.map_cons, List.map_nil, List.length_cons, List.length_nil, List.replicate, List.cons_append, List.nil_append])
local macro_rules | `(tactic| trivial) => `(tactic| first | exact ⟨rfl, rfl⟩ | exact ⟨True.intro, True.intro⟩ | exact ⟨rfl, True.intro⟩ | exact ⟨True.intro, rfl⟩ | exact True.intro | rfl)
local macro_rules | `(tactic| subst_eqs) => `(tactic| (refine tob_cons ?_; and_intros))

/-! ### ovens: the plain part -/
theorem rng_pk {T U : List Int} (hl : U.length = T.length) : (List.range T.length).map (pk T U) = T.zip U := by
  refine List.ext_getElem (by rw [List.length_map, List.length_range, List.length_zip]; omega) fun i h1 h2 => ?_
  rw [List.length_map, List.length_range] at h1
  rw [List.getElem_map, List.getElem_range, List.getElem_zip]
  unfold pk
  rw [List.getD_eq_getElem?_getD, List.getD_eq_getElem?_getD, List.getElem?_eq_getElem h1, List.getElem?_eq_getElem (by omega)]
  rfl
theorem sP_zip {T U : List Int} (hl : U.length = T.length) : (sP T U).Perm (T.zip U) := by
  rw [← rng_pk hl]; exact sP_perm T U
theorem wsum_sP {T U : List Int} (hl : U.length = T.length) : wsum (sP T U) = U.sum := by
  have h := perm_sum ((sP_zip hl).map (·.2))
  have e : (T.zip U).map (·.2) = U := by
    have := List.map_snd_zip (l₁ := T) (l₂ := U) (by omega)
    exact this
  rw [e] at h
  exact h
theorem tw_sP {T U : List Int} : tw (sP T U) = tw ((List.range T.length).map (pk T U)) := perm_sum ((sP_perm T U).map _)
theorem sP_last {T U : List Int} (h : 1 ≤ T.length) : ∃ A a, sP T U = A ++ [a] := by
  have hl := sP_len T U
  refine ⟨(sP T U).dropLast, (sP T U).getLast (by intro z; rw [z] at hl; simp at hl; omega), ?_⟩
  exact (List.dropLast_concat_getLast _).symm
theorem sP_in {T U : List Int} (hl : U.length = T.length) {p : Tw} (h : p ∈ sP T U) : p.1 ∈ T ∧ p.2 ∈ U := by
  obtain ⟨k, hk, rfl⟩ := sP_mem h
  exact ⟨getD_mem hk, getD_mem (by omega)⟩
theorem dw_ok {T U : List Int} (hl : U.length = T.length) (h1 : 1 ≤ T.length) (hT : ∀ t ∈ T, 1 ≤ t) (hU : ∀ u ∈ U, 0 ≤ u) {v H : Int} (hv : IsDw (sP T U) v) (hH : ∀ t ∈ T, t ≤ H) :
    v ≤ H * U.sum ∧ v ≤ fm ((List.range T.length).map (pk T U)) ∧ tw ((List.range T.length).map (pk T U)) ≤ v := by
  have h0 : ∀ p ∈ sP T U, 0 < p.1 ∧ 0 ≤ p.2 := fun p hp => by
    obtain ⟨a, b⟩ := sP_in hl hp
    have := hT _ a
    exact ⟨by omega, hU _ b⟩
  refine ⟨?_, ?_, ?_⟩
  · obtain ⟨A, a, e⟩ := sP_last (U := U) h1
    have hd := dw_all (A := A) (a := a)
    rw [← e] at hd
    have h2 := hv.2 _ hd
    rw [wsum_sP hl] at h2
    have h3 := hH _ (sP_in hl (p := a) (by rw [e]; exact List.mem_append_right _ (List.mem_singleton.mpr rfl))).1
    have h4 : 0 ≤ U.sum := by
      rw [← wsum_sP hl]
      exact wsum_pos fun p hp => (h0 p hp).2
    have h5 := Int.mul_le_mul_of_nonneg_right h3 h4
    omega
  · obtain ⟨w, hw, hle⟩ := dw_fm _ rfl (sP_srt T U) h0
    have := hv.2 _ hw
    rw [← fm_perm (sP_perm T U)]
    omega
  · rw [← tw_sP]
    exact dw_low hv.1 (sP_srt T U) fun p hp => ⟨Int.le_of_lt (h0 p hp).1, (h0 p hp).2⟩
theorem lt_ok {T U : List Int} (hl : U.length = T.length) (h1 : 1 ≤ T.length) (hT : ∀ t ∈ T, 1 ≤ t) {v H m : Int} (hv : IsLt (sP T U) (some v)) (hH : ∀ t ∈ T, t ≤ H) (hm : ∀ u ∈ U, m ≤ u) :
    (∀ (row : List Nat) (l : Int), row.Perm (List.range T.length) → lateR (row.map (pk T U)) = some l → v ≤ l) ∧ v ≤ H - m ∧ ∀ k, k < T.length → T.getD k 0 - U.getD k 0 ≤ v := by
  have h0 : ∀ p ∈ sP T U, 0 ≤ p.1 := fun p hp => by
    obtain ⟨a, b⟩ := sP_in hl hp
    have := hT _ a
    omega
  obtain ⟨A, a, e⟩ := sP_last (U := U) h1
  refine ⟨fun row l hr hla => ?_, ?_, fun k hk => ?_⟩
  · obtain ⟨w, l', g1, g2, g3⟩ := lt_row (row.map (pk T U)) (P := sP T U) ((hr.map _).trans (sP_perm T U).symm) (by rw [e]; simp) (sP_srt T U) h0
    rw [hla] at g2
    have := hv.2 v w rfl g1
    cases g2
    omega
  · have hd := Lt.cons A a [] none .nil
    rw [← e] at hd
    have h2 := hv.2 v _ rfl hd
    have h3 := hH _ (sP_in hl (p := a) (by rw [e]; exact List.mem_append_right _ (List.mem_singleton.mpr rfl))).1
    have h4 : m ≤ mind a.2 A := by
      obtain ⟨_, _, m3⟩ := mind_le A a.2
      rcases m3 with m3 | ⟨q, hq, m3⟩
      · rw [m3]; exact hm _ (sP_in hl (by rw [e]; exact List.mem_append_right _ (List.mem_singleton.mpr rfl))).2
      · rw [m3]; exact hm _ (sP_in hl (by rw [e]; exact List.mem_append_left _ hq)).2
    have h5 : lv A a none = a.1 - mind a.2 A := rfl
    omega
  · exact lt_low hv.1 (sP_srt T U) h0 v rfl (pk T U k) ((sP_perm T U).symm.subset (List.mem_map_of_mem (List.mem_range.mpr hk)))
theorem dsc_srt (T : List Int) : (dsc T).Pairwise fun a b => b ≤ a := by
  unfold dsc
  exact List.pairwise_reverse.mpr (asc_srt T)
theorem blk_first {T : List Int} (h1 : 1 ≤ T.length) {H : Int} (hH : H ∈ T) (hm : ∀ t ∈ T, t ≤ H) : blk T.length T.length (dsc T) = H := by
  have hs := dsc_srt T
  have hp := dsc_perm T
  have hl := dsc_len T
  cases hd : dsc T with
  | nil => rw [hd] at hl; simp at hl; omega
  | cons x xs =>
    rw [hd] at hs hp hl
    obtain ⟨k, hk⟩ : ∃ k, T.length = k + 1 := ⟨T.length - 1, by omega⟩
    have hl' : xs.length + 1 = T.length := hl
    rw [hk, blk_all (by omega)]
    have a := hm x (hp.subset (List.mem_cons_self ..))
    rcases List.mem_cons.mp (hp.symm.subset hH) with z | z
    · exact z.symm
    · have := (List.pairwise_cons.mp hs).1 _ z
      omega
theorem blk_down {T : List Int} (hT : ∀ t ∈ T, 1 ≤ t) {r : Nat} (hr : 1 ≤ r) : blk (r + 1) T.length (dsc T) ≤ blk r T.length (dsc T) := by
  have hm : ∀ x ∈ dsc T, 0 ≤ x := fun x hx => by have := hT x ((dsc_perm T).subset hx); omega
  refine blk_mono r hr _ _ _ (Nat.le_refl _) (fun i => Int.le_refl _) (fun i j hij => ?_) hm
  by_cases hj : j < (dsc T).length
  · rw [List.getD_eq_getElem?_getD, List.getD_eq_getElem?_getD, List.getElem?_eq_getElem hj, List.getElem?_eq_getElem (by omega)]
    by_cases e : i = j
    · subst e; exact Int.le_refl _
    · exact List.pairwise_iff_getElem.mp (dsc_srt T) i j (by omega) hj (by omega)
  · rw [List.getD_eq_getElem?_getD (i := j), List.getElem?_eq_none (by omega)]
    rw [List.getD_eq_getElem?_getD]
    cases hi : (dsc T)[i]? with
    | none => exact Int.le_refl _
    | some x => exact hm x (List.mem_of_getElem? hi)
theorem blk_sum {T : List Int} : blk 1 T.length (dsc T) = T.sum := by
  rw [blk_one _ _ (by rw [dsc_len]; exact Nat.le_refl _)]
  exact perm_sum (dsc_perm T)
theorem at_last {α : Type} {f : α → D} {l : List α} (d : α) (h : 1 ≤ l.length) : atI (l.map f) (-1) = some (f (l.getD (l.length - 1) d)) := by
  have h1 := at_get (f := f) (l := l) (k := l.length - 1) d (by omega)
  unfold atI at *
  have e : ixN (l.map f).length (-1) = ixN (l.map f).length ((l.length - 1 : Nat) : Int) := by
    rw [List.length_map]
    unfold ixN
    rw [if_neg (by omega), if_pos (by omega), if_pos (by omega), if_pos (by omega)]
    congr 1
    omega
  rw [e]; exact h1
end Lk89

namespace Lk89
open PySem PySem.Spec PyProof.Rows L2 Z
local macro_rules | `(tactic| and_intros) => `(tactic| simp only [denS, denR, denE, denEs, denT, denTs, denBop, denN, denO, denC, denW, Exs.isNil, tos_seq, tos_bindR, tos_nx, tos_rt, tos_bk, tos_ct, to_bind, to_noex, to_ok, to_some, to_ite, to_fit, to_map, to_obind, tob_nil, var_z, var_o, var_s, set_z, set_s, Option.map_some, Option.bind_some, b_add, b_sub, b_mul, b_div, b_mod, b_pow, b_adds, b_addl, b_mull, c_lt, c_le, c_gt, c_ge, c_is, c_isn, c_eq, c_ne, e_int, t_bl, t_int, t_lst, t_non, i_tup, i_lst, i_loc, at0, at1, at2, l_lst, m_lst, l_scr, f_int, f_len, f_lens, f_lent, f_max2, f_min2, bt_bits, bd_bits, g_rng1, g_rng2, List.set_cons_zero, List.set_cons_succ, wipeR, s_lst, ld_lst, ok_lst, ok_tup, ok_int, ok_str, ok_bl, ok_non, is_ll, is_tt, is_lt, is_tl, is_li, is_ti, is_si, is_bi, is_ii, is_ss, is_ls, is_ts, f_isiL, f_lenT, f_srt, f_srtP, f_all, f_sumI, f_min1, f_max1, f_tup, bt_idx, bd_idx, g_rng3, g_lrg1, e_bl, rev_map, List.length_map, Bool.or_true, Bool.or_false,    Option.isNone_some, Option.isNone_none, Bool.not_false, Bool.not_true,  List.map_cons, List.map_nil, List.length_cons, List.length_nil, List.replicate, List.cons_append, List.nil_append])
local macro_rules | `(tactic| trivial) => `(tactic| first | exact ⟨rfl, rfl⟩ | exact ⟨True.intro, True.intro⟩ | exact ⟨rfl, True.intro⟩ | exact ⟨True.intro, rfl⟩ | exact True.intro | rfl)
local macro_rules | `(tactic| subst_eqs) => `(tactic| (refine tob_cons ?_; and_intros))

/-! ### ovens -/
section
variable {μ : Mu} {n : Nat} {Q : D → Mu → Prop} {T U V : List Int} {a : Nat}
theorem ovens9 (h : Tm T) (hU : Cn 0 1000 U) (hl : U.length = T.length) (hV : Cn 0 100000 V) (hl2 : V.length = T.length) (hq : ∀ μ' : Mu, (∀ (k : Nat) (c : Cell), μ[k]? = some c → μ'[k]? = some c) → Q (.bl true) μ') : R.To (phi G.cs (fbs G.toGi) (n + 9) 86 [.lst (T.map .int), .lst (U.map .int), .lst (V.map .int)] μ) Q := by
  have h12 := h.l2
  have h1 := h.l1
  obtain ⟨t, ts, et⟩ : ∃ t ts, T = t :: ts := by
    cases T with
    | nil => simp at h1
    | cons t ts => exact ⟨t, ts, rfl⟩
  obtain ⟨g1, g2, g3⟩ := maxI_le ts t
  have hH : ∀ x ∈ T, x ≤ maxI t ts := fun x hx => by
    rw [et] at hx
    rcases List.mem_cons.mp hx with rfl | hx
    · exact g1
    · exact g2 x hx
  have hHm : maxI t ts ∈ T := by
    rw [et]
    exact maxI_mem t ts
  have hmx : biD .max μ [.lst (T.map .int)] = some (.int (maxI t ts)) := by rw [et]; exact f_max1
  generalize hHe : maxI t ts = H at *
  have hTb := h.c
  have hHb := hTb H hHm
  refine to_phi fb86 rfl ?_
  unfold ir86
  subst_eqs
  rw [hmx]
  subst_eqs
  refine ⟨by rw [rngOk_of (by omega) (by omega)]; exact rngOk_of (by omega) (by omega), ?_⟩
  have er : rngItems 1 ((T.length : Int) + 1 - 1).toNat = (List.range T.length).map fun k => eN (k + 1) := by
    unfold rngItems
    rw [show ((T.length : Int) + 1 - 1).toNat = T.length by omega]
    refine List.map_congr_left fun k _ => ?_
    show D.int _ = D.int ((k + 1 : Nat) : Int)
    congr 1
    omega
  rw [er]
  refine cmp_int (fun k => eN (k + 1)) (fun k => blk (k + 1) T.length (dsc T)) (fun k hk => ⟨_, rfl, ?_⟩) (by rw [List.length_range]; omega) ?_
  · have hk' := List.mem_range.mp hk
    and_intros
    exact least9 h (by omega) (by omega) (by trivial)
  generalize hLs : (List.range T.length).map (fun k => blk (k + 1) T.length (dsc T)) = Ls
  have hLl : Ls.length = T.length := by rw [← hLs, List.length_map, List.length_range]
  have hLg : ∀ k, k < T.length → Ls.getD k 0 = blk (k + 1) T.length (dsc T) := fun k hk => by
    rw [← hLs, List.getD_eq_getElem?_getD, List.getElem?_map, List.getElem?_range hk]; rfl
  subst_eqs
  have ha0 := at_get (f := D.int) (l := Ls) (k := 0) 0 (by omega)
  rw [show ((0 : Nat) : Int) = 0 from rfl, hLg 0 (by omega), blk_sum] at ha0
  rw [ha0]
  and_intros
  simp only [decide_true]
  and_intros
  rw [at_last 0 (by omega), hLg _ (by omega), hLl, show T.length - 1 + 1 = T.length by omega, blk_first h1 hHm hH]
  and_intros
  simp only [decide_true]
  and_intros
  refine ⟨by rw [rngOk_of (by omega) (by omega)]; exact rngOk_of (by omega) (by omega), ?_⟩
  have er2 : rngItems 1 ((T.length : Int) - 1).toNat = (List.range (T.length - 1)).map fun k => eN (k + 1) := by
    unfold rngItems
    rw [show ((T.length : Int) - 1).toNat = T.length - 1 by omega]
    refine List.map_congr_left fun k _ => ?_
    show D.int _ = D.int ((k + 1 : Nat) : Int)
    congr 1
    omega
  rw [er2]
  refine cmp_flt (fun k => eN (k + 1)) (fun _ => false) (fun k => eN (k + 1)) (fun k hk => ⟨_, rfl, ?_, fun z => by cases z⟩) (by rw [List.length_range]; omega) ?_
  · have hk' := List.mem_range.mp hk
    and_intros
    rw [at_get 0 (show k + 1 < Ls.length by omega)]
    and_intros
    rw [show ((k + 1 : Nat) : Int) - 1 = (k : Nat) by omega, at_get 0 (show k < Ls.length by omega)]
    and_intros
    refine ⟨?_, by trivial⟩
    have := blk_down (T := T) (fun t ht => (hTb t ht).1) (r := k + 1) (by omega)
    rw [hLg _ (by omega), hLg _ (by omega)]
    exact decide_eq_false (by omega)
  rw [List.filter_eq_nil_iff.mpr fun _ _ => by simp]
  and_intros
  rw [eq_nil fun x hx => by cases hx]
  simp only [List.isEmpty_nil]
  and_intros
  refine ⟨by decide, ?_⟩
  have hub : 0 ≤ U.sum ∧ U.sum ≤ 1000 * (T.length : Int) := by
    have := wsum_bnd (sP T U) fun p hp => by
      obtain ⟨_, b⟩ := sP_in hl hp
      exact hU.2 _ b
    rw [wsum_sP hl, sP_len] at this
    exact this
  subst_eqs
  refine weighed9 h hU hl fun v μ1 hv hx1 => ?_
  refine ⟨mul_sz (a := 20) (b := 20) (sz_of (by omega) (by omega)) (sz_of (by omega) (by omega)) (by omega), ?_⟩
  refine waiting9 h hU hl ?_
  and_intros
  obtain ⟨d1, d2, _⟩ := dw_ok hl h1 (fun x hx => (hTb x hx).1) (fun u hu => (hU.2 u hu).1) hv hH
  rw [decide_eq_true (show v ≤ if fm ((List.range T.length).map (pk T U)) < H * U.sum then fm ((List.range T.length).map (pk T U)) else H * U.sum by split <;> omega)]
  and_intros
  subst_eqs
  rw [enu_zip]
  refine cmp_int _ (fun p => U.getD p.2 0 * p.1) (fun p hp => ⟨_, rfl, ?_⟩) (by rw [List.length_zipIdx]; omega) ?_
  · obtain ⟨z1, z2⟩ := zip_get hp
    have b1 := hTb _ (getD_mem z1)
    have b2 := hU.2 _ (getD_mem (show p.2 < U.length by omega))
    rw [z2] at b1
    and_intros
    rw [at_get 0 (show p.2 < U.length by omega)]
    and_intros
    exact ⟨mul_sz (a := 20) (b := 20) (sz_of (by omega) (by omega)) (sz_of (by omega) (by omega)) (by omega), by trivial⟩
  and_intros
  have etw : (T.zipIdx.map fun p => U.getD p.2 0 * p.1).sum = tw ((List.range T.length).map (pk T U)) := by
    unfold tw
    congr 1
    refine List.ext_getElem (by simp) fun i h1 h2 => ?_
    rw [List.length_map, List.length_zipIdx] at h1
    rw [List.getElem_map, List.getElem_map, List.getElem_map, List.getElem_zipIdx, List.getElem_range]
    unfold pk
    simp only [Nat.zero_add]
    rw [List.getD_eq_getElem?_getD (l := T), List.getElem?_eq_getElem h1]
    rfl
  rw [etw]
  subst_eqs
  refine weighed9 h hU hl fun v2 μ2 hv2 hx2 => ?_
  and_intros
  obtain ⟨_, _, d3⟩ := dw_ok hl h1 (fun x hx => (hTb x hx).1) (fun u hu => (hU.2 u hu).1) hv2 hH
  rw [decide_eq_false (show ¬ v2 < tw ((List.range T.length).map (pk T U)) by omega)]
  and_intros
  subst_eqs
  refine leastlate9 h hV hl2 fun w hw => ?_
  refine ⟨by decide, ?_⟩
  refine lateness9 h hV hl2 fun row l hr hla => ?_
  subst_eqs
  obtain ⟨u, us, eu⟩ : ∃ u us, V = u :: us := by
    cases V with
    | nil => simp at hl2; omega
    | cons u us => exact ⟨u, us, rfl⟩
  have hmn : ∀ μ, biD .min μ [.lst (V.map .int)] = some (.int (minI u us)) := fun μ => by rw [eu]; exact f_min1
  have hmb : ∀ x ∈ V, minI u us ≤ x := fun x hx => by
    obtain ⟨q1, q2, _⟩ := minI_le us u
    rw [eu] at hx
    rcases List.mem_cons.mp hx with rfl | hx
    · exact q1
    · exact q2 x hx
  obtain ⟨l1, l2, l3⟩ := lt_ok hl2 h1 (fun x hx => (hTb x hx).1) hw hH hmb
  have l1 := l1 row l hr hla
  rw [decide_eq_true l1]
  and_intros
  rw [hmn]
  and_intros
  rw [decide_eq_true l2]
  and_intros
  refine ⟨rngOk_of (by omega) (by omega), ?_⟩
  rw [rng0]
  refine cmp_int eN (fun k => T.getD k 0 - V.getD k 0) (fun k hk => ⟨_, rfl, ?_⟩) (by rw [List.length_range]; omega) ?_
  · have hk' := List.mem_range.mp hk
    and_intros
    rw [at_get 0 hk']
    and_intros
    rw [at_get 0 (show k < V.length by omega)]
    and_intros
    trivial
  generalize hds : (List.range T.length).map (fun k => T.getD k 0 - V.getD k 0) = ds
  have hdl : ds.length = T.length := by rw [← hds, List.length_map, List.length_range]
  obtain ⟨d, ds', rfl⟩ : ∃ e es, ds = e :: es := by
    cases ds with
    | nil => simp at hdl; omega
    | cons e es => exact ⟨e, es, rfl⟩
  show R.To (R.opt (biD .max μ2 [.lst ((d :: ds').map .int)]) μ2) _
  rw [f_max1]
  and_intros
  have hge : maxI d ds' ≤ w := by
    have := maxI_mem d ds'
    rw [← hds] at this
    obtain ⟨k, hk, e⟩ := List.mem_map.mp this
    have := l3 k (List.mem_range.mp hk)
    rw [← e]
    exact this
  rw [decide_eq_true hge]
  exact hq μ2 fun k c e => hx2 k c (hx1 k c e)
end
end Lk89

namespace Lk89
open PySem PySem.Spec PyProof.Rows L2 Z
local macro_rules | `(tactic| and_intros) => `(tactic| simp only [denS, denR, denE, denEs, denT, denTs, denBop, denN, denO, denC, denW, Exs.isNil, tos_seq, tos_bindR, tos_nx, tos_rt, tos_bk, tos_ct, to_bind, to_noex, to_ok, to_some, to_ite, to_fit, to_map, to_obind, tob_nil, var_z, var_o, var_s, set_z, set_s, Option.map_some, Option.bind_some, b_add, b_sub, b_mul, b_div, b_mod, b_pow, b_adds, b_addl, b_mull, c_lt, c_le, c_gt, c_ge, c_is, c_isn, c_eq, c_ne, e_int, t_bl, t_int, t_lst, t_non, i_tup, i_lst, i_loc, at0, at1, at2, l_lst, m_lst, l_scr, f_int, f_len, f_lens, f_lent, f_max2, f_min2, bt_bits, bd_bits, g_rng1, g_rng2, List.set_cons_zero, List.set_cons_succ, wipeR, s_lst, ld_lst, ok_lst, ok_tup, ok_int, ok_str, ok_bl, ok_non, is_ll, is_tt, is_lt, is_tl, is_li, is_ti, is_si, is_bi, is_ii, is_ss, is_ls, is_ts, f_isiL, f_lenT, f_srt, f_srtP, f_all, f_sumI, f_min1, f_max1, f_tup, bt_idx, bd_idx, g_rng3, g_lrg1, e_bl, rev_map, List.length_map, Bool.or_true, Bool.or_false,    Option.isNone_some, Option.isNone_none, Bool.not_false, Bool.not_true,  List.map_cons, List.map_nil, List.length_cons, List.length_nil, List.replicate, List.cons_append, List.nil_append])
local macro_rules | `(tactic| trivial) => `(tactic| first | exact ⟨rfl, rfl⟩ | exact ⟨True.intro, True.intro⟩ | exact ⟨rfl, True.intro⟩ | exact ⟨True.intro, rfl⟩ | exact True.intro | rfl)
local macro_rules | `(tactic| subst_eqs) => `(tactic| (refine tob_cons ?_; and_intros))

/-! ### exactly the same; copies -/
section
variable {μ : Mu} {n : Nat} {Q : D → Mu → Prop} {T : List Int} {α : Type} {f : α → D} {l : List α} {i : Int}
theorem or_and : (BoolOp.Or == BoolOp.And) = false := rfl
theorem is_il : Ty.is .int μ (.lst []) = false := rfl
theorem ex_int (hq : Q (.bl true) μ) : R.To (phi G.cs (fbs G.toGi) (n + 1) 81 [.int i, .int i] μ) Q := by
  refine to_phi fb81 rfl ?_
  unfold ir81
  subst_eqs
  refine ⟨by trivial, ?_⟩
  subst_eqs
  refine ⟨by trivial, ?_⟩
  subst_eqs
  refine ⟨by trivial, ?_⟩
  subst_eqs
  refine ⟨by trivial, ?_⟩
  subst_eqs
  refine ⟨by trivial, by trivial, ?_⟩
  simp only [decide_true]
  exact hq
theorem ex_lst (hl : l.length ≤ 1000) (hs : ∀ a ∈ l, R.To (phi G.cs (fbs G.toGi) n 81 [f a, f a] μ) fun d μ' => d = .bl true ∧ μ' = μ) (hq : Q (.bl true) μ) : R.To (phi G.cs (fbs G.toGi) (n + 1) 81 [.lst (l.map f), .lst (l.map f)] μ) Q := by
  refine to_phi fb81 rfl ?_
  unfold ir81
  subst_eqs
  refine ⟨by trivial, ?_⟩
  subst_eqs
  refine ⟨by trivial, by trivial, ?_⟩
  simp only [decide_true]
  and_intros
  refine ⟨by trivial, by trivial, ?_⟩
  simp only [decide_true]
  and_intros
  rw [or_and]
  and_intros
  subst_eqs
  simp only [decide_true]
  and_intros
  rw [enu_zip]
  refine cmp_all _ (fun _ => .bl true) (fun p hp => ⟨_, rfl, ?_⟩) (by rw [List.length_zipIdx]; omega) ?_
  · obtain ⟨a, k⟩ := p
    obtain ⟨q, hq⟩ := List.mem_iff_getElem?.mp hp
    rw [List.getElem?_zipIdx] at hq
    cases ha : l[q]? with
    | none => rw [ha] at hq; cases hq
    | some b =>
      rw [ha] at hq
      have hq' : (b, 0 + q) = (a, k) := Option.some.inj hq
      obtain ⟨rfl, rfl⟩ := Prod.mk.inj hq'
      have hql := (List.getElem?_eq_some_iff.mp ha).1
      and_intros
      rw [Nat.zero_add, at_get b hql, List.getD_eq_getElem?_getD, ha]
      and_intros
      exact hs b (List.mem_of_getElem? ha)
  · have e : (l.zipIdx.map fun _ => D.bl true) = (l.zipIdx.map fun _ => true).map .bl := by rw [List.map_map]; rfl
    rw [e]
    and_intros
    have e2 : (l.zipIdx.map fun _ => true).all id = true := by simp
    rw [e2]
    exact hq
theorem cp_int (hq : Q (.int i) μ) : R.To (phi G.cs (fbs G.toGi) (n + 1) 82 [.int i] μ) Q := by
  refine to_phi fb82 rfl ?_
  unfold ir82
  subst_eqs
  refine ⟨by trivial, ?_⟩
  subst_eqs
  refine ⟨by trivial, ?_⟩
  exact hq
theorem cp_lst (hl : l.length ≤ 1000) (hs : ∀ a ∈ l, R.To (phi G.cs (fbs G.toGi) n 82 [f a] μ) fun d μ' => d = f a ∧ μ' = μ) (hq : Q (.lst (l.map f)) μ) : R.To (phi G.cs (fbs G.toGi) (n + 1) 82 [.lst (l.map f)] μ) Q := by
  refine to_phi fb82 rfl ?_
  unfold ir82
  subst_eqs
  refine ⟨by trivial, ?_⟩
  subst_eqs
  refine cmp_all f f (fun a ha => ⟨_, rfl, ?_⟩) (by omega) hq
  and_intros
  exact hs a ha
end
end Lk89

namespace Lk89
open PySem PySem.Spec PyProof.Rows L2 Z
local macro_rules | `(tactic| and_intros) => `(tactic| simp only [denS, denR, denE, denEs, denT, denTs, denBop, denN, denO, denC, denW, Exs.isNil, tos_seq, tos_bindR, tos_nx, tos_rt, tos_bk, tos_ct, to_bind, to_noex, to_ok, to_some, to_ite, to_fit, to_map, to_obind, tob_nil, var_z, var_o, var_s, set_z, set_s, Option.map_some, Option.bind_some, b_add, b_sub, b_mul, b_div, b_mod, b_pow, b_adds, b_addl, b_mull, c_lt, c_le, c_gt, c_ge, c_is, c_isn, c_eq, c_ne, e_int, t_bl, t_int, t_lst, t_non, i_tup, i_lst, i_loc, at0, at1, at2, l_lst, m_lst, l_scr, f_int, f_len, f_lens, f_lent, f_max2, f_min2, bt_bits, bd_bits, g_rng1, g_rng2, List.set_cons_zero, List.set_cons_succ, wipeR, s_lst, ld_lst, ok_lst, ok_tup, ok_int, ok_str, ok_bl, ok_non, is_ll, is_tt, is_lt, is_tl, is_li, is_ti, is_si, is_bi, is_ii, is_ss, is_ls, is_ts, f_isiL, f_lenT, f_srt, f_srtP, f_all, f_sumI, f_min1, f_max1, f_tup, bt_idx, bd_idx, g_rng3, g_lrg1, e_bl, rev_map, List.length_map, Bool.or_true, Bool.or_false,    Option.isNone_some, Option.isNone_none, Bool.not_false, Bool.not_true,  List.map_cons, List.map_nil, List.length_cons, List.length_nil, List.replicate, List.cons_append, List.nil_append])
local macro_rules | `(tactic| trivial) => `(tactic| first | exact ⟨rfl, rfl⟩ | exact ⟨True.intro, True.intro⟩ | exact ⟨rfl, True.intro⟩ | exact ⟨True.intro, rfl⟩ | exact True.intro | rfl)
local macro_rules | `(tactic| subst_eqs) => `(tactic| (refine tob_cons ?_; and_intros))

/-! ### around -/
theorem fm_one : ∀ L : List Int, fm (L.map fun t => (t, (1 : Int))) = pm L
  | [] => rfl
  | t :: L => by
    show 1 * t + ((L.map fun t => (t, (1 : Int))).map (mw (t, 1))).sum + fm (L.map fun t => (t, (1 : Int))) = t + msum t L + pm L
    rw [fm_one L, List.map_map]
    have e : (L.map ((mw (t, 1)) ∘ fun t => (t, (1 : Int)))) = L.map (mn t) := List.map_congr_left fun x _ => by
      show mw (t, 1) (x, 1) = mn t x
      unfold mw mn
      simp only [Int.one_mul]
      split <;> split <;> omega
    rw [e]
    unfold msum
    omega
theorem pk_one {L : List Int} : (List.range L.length).map (pk L (L.map fun _ => 1)) = L.map fun t => (t, (1 : Int)) := by
  rw [rng_pk (by rw [List.length_map])]
  refine List.ext_getElem (by simp) fun i h1 h2 => ?_
  rw [List.getElem_zip, List.getElem_map, List.getElem_map]
theorem aw_due {T : List Int} (h : 1 ≤ T.length) : aw 0 (dsc T) = pm (asc T).dropLast := by
  have hl := asc_len T
  have hne : asc T ≠ [] := by intro z; rw [z] at hl; simp at hl; omega
  have e := (List.dropLast_concat_getLast hne).symm
  have hs := asc_srt T
  generalize hr : (asc T).dropLast = rest at *
  generalize (asc T).getLast hne = x at *
  have ed : dsc T = x :: rest.reverse := by
    show (asc T).reverse = _
    rw [e, List.reverse_append]; rfl
  rw [ed]
  show ((0 : Nat) : Int) * x + aw (0 + 1) rest.reverse = _
  rw [aw_lsum, lsum_rev, pm_au]
  · simp
  · rw [e] at hs
    exact (List.pairwise_append.mp hs).1
theorem cut_dl {α : Type} {xs : List α} : Z.cutD xs none (some (-1)) = xs.dropLast := by
  unfold Z.cutD
  rw [HT.sIx_none, Nat.sub_zero, List.drop_zero]
  unfold HT.sIx
  simp only
  rw [if_pos (by omega), List.dropLast_eq_take]
  congr 1
  omega
theorem unp_to {o : Option Rho} {ρ1 : Rho} {μ : Mu} {E : Ek} (h : o = some ρ1) (hq : E.nx ρ1 μ) : RS.To (match o with | some ρ => RS.nx ρ μ | none => RS.bad) E := by subst h; exact hq
section
variable {μ : Mu} {n : Nat} {Q : D → Mu → Prop} {T U : List Int} {m : Nat} {a b : Int}
theorem aroundr9 (h : Tm T) (h5 : T.length ≤ 5) (hq : Q (.bl true) μ) : R.To (phi G.cs (fbs G.toGi) (n + 9) 87 [.lst (T.map .int)] μ) Q := by
  have hal := asc_len T
  have h1 := h.l1
  refine to_phi fb87 rfl ?_
  unfold ir87
  subst_eqs
  refine ⟨by decide, unp_to rfl ?_⟩
  dsimp only
  subst_eqs
  rw [cut_map, cut_dl]
  have hre : (isrt leI T).dropLast = (asc T).dropLast := rfl
  have hrl : (asc T).dropLast.length = T.length - 1 := by rw [List.length_dropLast, hal]
  have hrm : ∀ t ∈ (asc T).dropLast, t ∈ T := fun t ht => (asc_perm T).subset ((List.dropLast_sublist _).subset ht)
  have hdu := aw_due (T := T) h1
  rw [hre]
  generalize hR : (asc T).dropLast = rest at *
  and_intros
  subst_eqs
  refine ⟨by decide, ?_⟩
  rw [eq_nil fun x hx => by
    obtain ⟨k, _, rfl⟩ := List.mem_map.mp hx
    exact pln_int]
  and_intros
  refine R.To.mono (Q := fun d μ' => d = .int (pm rest) ∧ μ' = μ) ?_ ?_
  · cases hz : rest with
    | nil =>
      simp only [List.map_nil, List.isEmpty_nil, Bool.not_true]
      trivial
    | cons x xs =>
      rw [← hz]
      have e1 : (rest.map D.int).isEmpty = false := by rw [hz]; rfl
      rw [e1]
      and_intros
      refine cmp_int D.int (fun _ => 1) (fun k hk => ⟨_, rfl, by and_intros; trivial⟩) (by omega) ?_
      and_intros
      have hTr : Tm rest := ⟨by rw [hz]; simp, by omega, fun t ht => h.c t (hrm t ht)⟩
      refine waiting9 hTr ⟨by rw [List.length_map]; omega, fun t ht => ?_⟩ (by rw [List.length_map]) ?_
      · obtain ⟨k, _, rfl⟩ := List.mem_map.mp ht
        omega
      · rw [pk_one, fm_one]
        trivial
  rintro d μ' ⟨rfl, rfl⟩
  subst_eqs
  refine around9 h (by omega) (by omega) (sr_late _ h5) ?_
  and_intros
  refine around9 h (by omega) (by omega) (sr_early _ h5) ?_
  refine ⟨by decide, by decide, ?_⟩
  rw [hdu]
  refine ex_lst (l := [pm rest, pm rest]) (f := D.int) (by simp) (fun a _ => ex_int ⟨rfl, rfl⟩) ?_
  and_intros
  subst_eqs
  refine apart9 h ?_
  refine ⟨rngOk_of (by omega) (by omega), ?_⟩
  rw [rng0]
  refine cmp_int eN (fun k => (k : Int) * ((T.length : Int) - (k : Int))) (fun k hk => ⟨_, rfl, ?_⟩) (by rw [List.length_range]; omega) ?_
  · have hk' := List.mem_range.mp hk
    and_intros
    exact ⟨mul_sz (a := 20) (b := 20) (sz_of (by omega) (by omega)) (sz_of (by omega) (by omega)) (by omega), by trivial⟩
  and_intros
  have ea : isrt leI ((List.range T.length).map fun (k : Nat) => (k : Int) * ((T.length : Int) - (k : Int))) = (pn T.length).map fun (k : Nat) => (k : Int) * ((T.length : Int) - (k : Int)) := apP_asc T.length
  rw [ea, zip_map]
  have hpl := pn_len T.length
  have hdl := dsc_len T
  have ed : (isrt leI T).reverse = dsc T := rfl
  rw [ed]
  refine cmp_int _ (fun p => p.1 * p.2) (fun p hp => ⟨_, rfl, ?_⟩) ?_ ?_
  · obtain ⟨k, hk, e1⟩ := List.mem_map.mp (List.of_mem_zip hp).1
    have hk' := List.mem_range.mp ((pn_perm T.length).subset hk)
    have b1 := h.c _ ((dsc_perm T).subset (List.of_mem_zip hp).2)
    have s1 : sz 40 p.1 := by
      rw [← e1]
      exact sz_mul (a := 20) (b := 20) (sz_of (by omega) (by omega)) (sz_of (by omega) (by omega))
    and_intros
    exact ⟨mul_sz (a := 40) (b := 20) s1 (sz_of (by omega) (by omega)) (by omega), by trivial⟩
  · rw [List.length_zip, List.length_map]
    omega
  · and_intros
    have ez : ((((pn T.length).map fun (k : Nat) => (k : Int) * ((T.length : Int) - (k : Int))).zip (dsc T)).map fun p => p.1 * p.2).sum = apart T := by
      unfold apart
      rw [List.zip_map_left, List.map_map]
      rfl
    rw [ez, decide_eq_true rfl]
    exact hq
end
end Lk89

namespace Lk89
open PySem PySem.Spec PyProof.Rows L2 Z
/-! ### all is done in time -/
def Bn (d : Dy) (last : Int) : Prop := d.now + (tms d.wt).sum ≤ last ∧ ∀ e ∈ ends d.run, e + (tms d.wt).sum ≤ last
theorem tms_nonneg : ∀ {w : List Job}, (∀ j ∈ w, 0 ≤ j.2) → 0 ≤ (tms w).sum
  | [], _ => Int.le_refl _
  | j :: w, h => by
    have h1 := h j (List.mem_cons_self ..)
    have h2 := tms_nonneg (w := w) fun q hq => h q (List.mem_cons_of_mem _ hq)
    show 0 ≤ j.2 + (tms w).sum
    omega
theorem bgR_bn (now last : Int) : ∀ (xs : List (Option Job)) (w : List Job), (∀ j ∈ w, 0 ≤ j.2) → now + (tms w).sum ≤ last → (∀ e ∈ ends xs, e + (tms w).sum ≤ last) → (∀ e ∈ ends (bgR now xs w).1, e + (tms (bgR now xs w).2).sum ≤ last) ∧ (tms (bgR now xs w).2).sum ≤ (tms w).sum
  | [], w, _, _, _ => ⟨fun e h => (by cases h), Int.le_refl _⟩
  | o :: xs, w, h0, h1, h2 => by
    have e1 : bgR now (o :: xs) w = ((bg1 now o w).1 :: (bgR now xs (bg1 now o w).2).1, (bgR now xs (bg1 now o w).2).2) := rfl
    have cn : ∀ (o : Option Job) (ys : List (Option Job)), ends (o :: ys) = ends [o] ++ ends ys := fun o ys => by cases o <;> rfl
    rw [cn o xs] at h2
    have same : bg1 now o w = (o, w) → (∀ e ∈ ends (bgR now (o :: xs) w).1, e + (tms (bgR now (o :: xs) w).2).sum ≤ last) ∧ (tms (bgR now (o :: xs) w).2).sum ≤ (tms w).sum := by
      intro hb
      rw [e1, hb]
      obtain ⟨i1, i2⟩ := bgR_bn now last xs w h0 h1 fun e he => h2 e (List.mem_append_right _ he)
      refine ⟨fun e he => ?_, i2⟩
      have he' : e ∈ ends (o :: (bgR now xs w).1) := he
      rw [cn o] at he'
      show e + (tms (bgR now xs w).2).sum ≤ last
      rcases List.mem_append.mp he' with z | z
      · have := h2 e (List.mem_append_left _ z)
        omega
      · exact i1 e z
    cases o with
    | some j => exact same (by cases w <;> rfl)
    | none =>
      cases w with
      | nil => exact same rfl
      | cons a r =>
        have hk := sh_lt (w := a :: r) (by simp)
        have hp := erase_perm' hk
        have hg : (a :: r).getD (sh (a :: r)) j0 = (a :: r)[sh (a :: r)] := by
          rw [List.getD_eq_getElem?_getD, List.getElem?_eq_getElem hk]; rfl
        have e3 : (bg1 now none (a :: r)).2 = (a :: r).eraseIdx (sh (a :: r)) := rfl
        have hs := perm_sum (hp.map (·.2))
        have hb0 := h0 _ (List.getElem_mem hk)
        have e2 : (bg1 now none (a :: r)).1 = some (((a :: r)[sh (a :: r)]).1, now + ((a :: r)[sh (a :: r)]).2) := by
          show some (((a :: r).getD (sh (a :: r)) j0).1, now + ((a :: r).getD (sh (a :: r)) j0).2) = _
          rw [hg]
        have hs' : ((a :: r)[sh (a :: r)]).2 + (tms ((a :: r).eraseIdx (sh (a :: r)))).sum = (tms (a :: r)).sum := hs
        rw [e1, e2, e3]
        obtain ⟨i1, i2⟩ := bgR_bn now last xs ((a :: r).eraseIdx (sh (a :: r))) (fun j hj => h0 j (List.mem_of_mem_eraseIdx hj)) (by omega) fun e he => by
          have := h2 e (List.mem_append_right _ he)
          omega
        refine ⟨fun e he => ?_, ?_⟩
        · rcases List.mem_cons.mp he with z | z
          · rw [z]
            show now + _ + (tms (bgR now xs ((a :: r).eraseIdx (sh (a :: r)))).2).sum ≤ last
            omega
          · exact i1 e z
        · show (tms (bgR now xs ((a :: r).eraseIdx (sh (a :: r)))).2).sum ≤ _
          omega
theorem Bn.beg {d : Dy} {last : Int} (h : Bn d last) (tm : ∀ j ∈ d.wt, 0 ≤ j.2) : Bn (begD d) last := by
  obtain ⟨i1, i2⟩ := bgR_bn d.now last d.run d.wt tm h.1 h.2
  rw [← bg_R] at i1 i2
  refine ⟨?_, i1⟩
  have := h.1
  show d.now + (tms (bg d.now d.run d.wt).2).sum ≤ last
  omega
theorem at_ends_sub (m : Int) : ∀ (r : List (Option Job)) e, e ∈ ends (r.map fun o => if over m o then none else o) → e ∈ ends r
  | [], _, h => h
  | o :: r, e, h => by
    have ih := at_ends_sub m r e
    cases o with
    | none =>
      have h' : e ∈ ends (r.map fun o => if over m o then none else o) := by simpa [over, ends] using h
      show e ∈ ends r
      exact ih h'
    | some j =>
      show e ∈ j.2 :: ends r
      by_cases hc : j.2 ≤ m
      · have h' : e ∈ ends (r.map fun o => if over m o then none else o) := by simpa [over, ends, hc] using h
        exact List.mem_cons_of_mem _ (ih h')
      · have h' : e ∈ j.2 :: ends (r.map fun o => if over m o then none else o) := by simpa [over, ends, hc] using h
        rcases List.mem_cons.mp h' with rfl | h'
        · exact List.mem_cons_self ..
        · exact List.mem_cons_of_mem _ (ih h')
theorem Bn.stp {d : Dy} {last e : Int} (h : Bn d last) (g : Gd d) (he : nextEnd d.run = some e) : Bn (stp d e) last := by
  refine Bn.beg (d := atM e d) ⟨?_, fun x hx => h.2 x (at_ends_sub e d.run x hx)⟩ g.tm
  exact h.2 e (next_mem he).1
theorem Bn.pasN (last : Int) : ∀ (k : Nat) {d : Dy}, Gd d → Bn d last → Bn (pasN last k d) last
  | 0, d, _, h => h
  | k + 1, d, g, h => by
    unfold Lk89.pasN
    cases hn : nextEnd d.run with
    | none => exact h
    | some e =>
      simp only
      split
      · exact Bn.pasN last k (g.stp e) (h.stp g hn)
      · exact h
theorem all_over {d : Dy} {last : Int} (g : Gd d) (h : Bn d last) : ends (pas last d).run = [] ∧ (pas last d).wt = [] := by
  have g' := g.pasN last (mL d)
  have h' := Bn.pasN last (mL d) g h
  have hend := pasN_end last (mL d) d (Nat.le_refl _)
  have e1 : pas last d = pasN last (mL d) d := rfl
  rw [e1]
  generalize pasN last (mL d) d = d' at *
  have he : ends d'.run = [] := by
    cases hn : nextEnd d'.run with
    | none =>
      unfold nextEnd at hn
      cases hr : ends d'.run with
      | nil => rfl
      | cons a l => rw [hr] at hn; cases hn
    | some e =>
      have a1 := h'.2 e (next_mem hn).1
      have a2 := tms_nonneg g'.tm
      exact absurd (by omega) (hend e hn)
  refine ⟨he, ?_⟩
  cases hw : d'.wt with
  | nil => rfl
  | cons a r =>
    have hf := g'.full (by rw [hw]; simp)
    cases hr : d'.run with
    | nil => exact absurd hr g'.ne
    | cons o rr =>
      cases o with
      | none => rw [hr] at hf; exact absurd (List.mem_cons_self ..) hf
      | some j =>
        rw [hr] at he
        have : j.2 ∈ ends (some j :: rr) := List.mem_cons_self ..
        rw [he] at this
        cases this
/-! ### jobs come at the start of a day -/
def dayK (m : Nat) (J : List Job) (s : Str) : Dy := ⟨0, (J.take m).map some ++ List.replicate (m - J.length) none, J.drop m, [], s⟩
theorem day0_K (m : Nat) : day0 m = dayK m [] "" := by
  unfold day0 dayK
  simp
theorem bgR_somes (now : Int) : ∀ (X : List Job) (ys : List (Option Job)) (w : List Job), bgR now (X.map some ++ ys) w = (X.map some ++ (bgR now ys w).1, (bgR now ys w).2)
  | [], ys, w => rfl
  | j :: X, ys, w => by
    have e : bg1 now (some j) w = (some j, w) := by cases w <;> rfl
    show ((bg1 now (some j) w).1 :: (bgR now (X.map some ++ ys) (bg1 now (some j) w).2).1, (bgR now (X.map some ++ ys) (bg1 now (some j) w).2).2) = _
    rw [e]
    simp only
    rw [bgR_somes now X ys w]
    rfl
theorem beg_K {m : Nat} {J : List Job} {j : Job} {s s' : Str} : begD { dayK m J s' with wt := (dayK m J s').wt ++ [j], log := s } = dayK m (J ++ [j]) s := by
  have hb : ∀ (d : Dy), begD d = { d with run := (bgR d.now d.run d.wt).1, wt := (bgR d.now d.run d.wt).2 } := fun d => by unfold begD; rw [bg_R]
  rw [hb]
  show (⟨0, (bgR 0 ((J.take m).map some ++ List.replicate (m - J.length) none) (J.drop m ++ [j])).1, (bgR 0 ((J.take m).map some ++ List.replicate (m - J.length) none) (J.drop m ++ [j])).2, [], s⟩ : Dy) = dayK m (J ++ [j]) s
  rw [bgR_somes]
  unfold dayK
  by_cases h : J.length < m
  · obtain ⟨z, hz⟩ : ∃ z, m - J.length = z + 1 := ⟨m - J.length - 1, by omega⟩
    have e1 : J.drop m = [] := List.drop_of_length_le (by omega)
    have e2 : bgR 0 (List.replicate (m - J.length) none) ([] ++ [j]) = (some j :: List.replicate z none, []) := by
      rw [hz, List.replicate_succ]
      have e3 : bg1 0 none [j] = (some j, []) := by
        show (some (([j].getD (sh [j]) j0).1, 0 + ([j].getD (sh [j]) j0).2), [j].eraseIdx (sh [j])) = _
        have : sh [j] = 0 := by
          have := sh_lt (w := [j]) (by simp)
          simp at this; omega
        rw [this]
        show (some (j.1, 0 + j.2), _) = _
        rw [Int.zero_add]; rfl
      show ((bg1 0 none [j]).1 :: (bgR 0 (List.replicate z none) (bg1 0 none [j]).2).1, (bgR 0 (List.replicate z none) (bg1 0 none [j]).2).2) = _
      rw [e3]
      simp only
      rw [bgR_nil]
    rw [e1, e2]
    have e4 : (J ++ [j]).take m = J ++ [j] := List.take_of_length_le (by rw [List.length_append]; simp; omega)
    have e5 : (J ++ [j]).drop m = [] := List.drop_of_length_le (by rw [List.length_append]; simp; omega)
    have e6 : J.take m = J := List.take_of_length_le (by omega)
    rw [e4, e5, e6, List.map_append, List.length_append]
    have e7 : m - (J.length + [j].length) = z := by simp; omega
    rw [e7]
    simp
  · have e0 : m - J.length = 0 := by omega
    have e0' : m - (J ++ [j]).length = 0 := by rw [List.length_append]; omega
    rw [e0, e0']
    have e4 : (J ++ [j]).take m = J.take m := by rw [List.take_append_of_le_length (by omega)]
    have e5 : (J ++ [j]).drop m = J.drop m ++ [j] := by rw [List.drop_append_of_le_length (by omega)]
    rw [e4, e5]
    rfl
/-! ### what the ends sum to -/
theorem ends_K (m : Nat) (J : List Job) (s : Str) : (ends (dayK m J s).run).sum = ((J.take m).map (·.2)).sum := by
  have e : ends (dayK m J s).run = (J.take m).map (·.2) := by
    show ends ((J.take m).map some ++ List.replicate (m - J.length) none) = _
    rw [ends_app]
    have a : ∀ X : List Job, ends (X.map some) = X.map (·.2) := fun X => by
      induction X with
      | nil => rfl
      | cons j X ih =>
        show j.2 :: ends (X.map some) = _
        rw [ih]; rfl
    have b : ∀ z, ends (List.replicate z (none : Option Job)) = [] := fun z => by
      induction z with
      | zero => rfl
      | succ z ih => rw [List.replicate_succ]; exact ih
    rw [a, b, List.append_nil]
  rw [e]
theorem frees_K (m : Nat) (J : List Job) (s : Str) : frees (dayK m J s) = (J.take m).map (·.2) ++ List.replicate (m - J.length) 0 := by
  show (((J.take m).map some ++ List.replicate (m - J.length) none).map (frO 0)) = _
  rw [List.map_append, List.map_map, List.map_replicate]
  rfl
theorem place : ∀ (P : List Int) (z : Nat) (A R : List Int) (v : Int), Ach (A ++ P ++ List.replicate z 0) R v → Ach (A ++ List.replicate (P.length + z) 0) (P ++ R) (P.sum + v)
  | [], z, A, R, v, h => by
    have h' : Ach (A ++ List.replicate z 0) R v := by simpa using h
    simpa using h'
  | t :: P, z, A, R, v, h => by
    have h1 : Ach ((A ++ [t]) ++ P ++ List.replicate z 0) R v := by
      have e : A ++ t :: P ++ List.replicate z 0 = (A ++ [t]) ++ P ++ List.replicate z 0 := by simp
      rw [← e]; exact h
    have ih := place P z (A ++ [t]) R v h1
    have e0 : (t :: P).length + z = (P.length + z) + 1 := by simp; omega
    rw [e0, List.replicate_succ, List.sum_cons, Int.add_assoc]
    have := Ach.cons (F := A ++ 0 :: List.replicate (P.length + z) 0) (f := 0) (t := t) (F' := A ++ List.replicate (P.length + z) 0) (T := t :: P ++ R) (T' := P ++ R) (v := P.sum + v) List.perm_middle (.refl _) ?_
    · rw [Int.zero_add] at this
      exact this
    · rw [Int.zero_add]
      refine ih.perm ?_ (.refl _)
      rw [List.append_assoc]
      exact List.perm_middle
theorem placeMin : ∀ (P : List Int) (z : Nat) (A R : List Int) (v : Int), (∀ a ∈ A, 0 ≤ a) → (∀ t ∈ P ++ R, 0 ≤ t) → (P ++ R).Pairwise (· ≤ ·) → IsMin (A ++ P ++ List.replicate z 0) R v → IsMin (A ++ List.replicate (P.length + z) 0) (P ++ R) (P.sum + v)
  | [], z, A, R, v, _, _, _, h => by
    have h' : IsMin (A ++ List.replicate z 0) R v := by simpa using h
    simpa using h'
  | t :: P, z, A, R, v, hA, h0, hs, h => by
    have h1 : IsMin ((A ++ [t]) ++ P ++ List.replicate z 0) R v := by
      have e : A ++ t :: P ++ List.replicate z 0 = (A ++ [t]) ++ P ++ List.replicate z 0 := by simp
      rw [← e]; exact h
    have ht : 0 ≤ t := h0 t (List.mem_cons_self ..)
    obtain ⟨s1, s2⟩ := List.pairwise_cons.mp (show (t :: (P ++ R)).Pairwise (· ≤ ·) from hs)
    have ih := placeMin P z (A ++ [t]) R v (fun a ha => by
      rcases List.mem_append.mp ha with ha | ha
      · exact hA a ha
      · rw [List.mem_singleton.mp ha]; exact ht) (fun x hx => h0 x (List.mem_cons_of_mem _ hx)) s2 h1
    have e0 : (t :: P).length + z = (P.length + z) + 1 := by simp; omega
    rw [e0, List.replicate_succ, List.sum_cons, Int.add_assoc]
    have := IsMin.step (F := A ++ 0 :: List.replicate (P.length + z) 0) (f1 := 0) (t1 := t) (F1 := A ++ List.replicate (P.length + z) 0) (T := t :: P ++ R) (T1 := P ++ R) (v := P.sum + v) ?_ List.perm_middle ?_ (.refl _) ?_ h0
    · rw [Int.zero_add] at this
      exact this
    · rw [Int.zero_add]
      refine ih.perm ?_ (.refl _)
      rw [List.append_assoc]
      exact List.perm_middle
    · intro x hx
      rcases List.mem_append.mp hx with hx | hx
      · exact hA x hx
      · rcases List.mem_cons.mp hx with rfl | hx
        · exact Int.le_refl _
        · rw [List.eq_of_mem_replicate hx]; exact Int.le_refl _
    · intro x hx
      rcases List.mem_cons.mp hx with rfl | hx
      · exact Int.le_refl _
      · exact s1 x hx
end Lk89

namespace Lk89
open PySem PySem.Spec PyProof.Rows L2 Z
theorem takes_len (m : Nat) (J : List Job) : ((J.take m).map (·.2)).length + (m - J.length) = m := by
  rw [List.length_map, List.length_take]; omega
theorem takes_app (m : Nat) (J : List Job) : (J.take m).map (·.2) ++ (J.drop m).map (·.2) = J.map (·.2) := by
  rw [← List.map_append, List.take_append_drop]
theorem fin_K {m : Nat} {J : List Job} {s : Str} (g : Gd (dayK m J s)) : ∃ w, IsMin ([] ++ (J.take m).map (·.2) ++ List.replicate (m - J.length) 0) ((J.drop m).map (·.2)) w ∧ sumT (fin (dayK m J s)).dn = ((J.take m).map (·.2)).sum + w := by
  obtain ⟨w, hw, e⟩ := fin_opt g
  rw [frees_K] at hw
  rw [ends_K] at e
  refine ⟨w, hw, ?_⟩
  rw [e]
  show (0 : Int) + _ + _ = _
  omega
theorem sum_low {m : Nat} {J : List Job} {s : Str} {T : List Int} (hm : 1 ≤ m) (g : Gd (dayK m J s)) (hp : (J.map (·.2)).Perm T) (h0 : ∀ t ∈ T, 0 ≤ t) : au m (asc T) ≤ sumT (fin (dayK m J s)).dn := by
  obtain ⟨w, hw, e⟩ := fin_K g
  have h := place _ _ [] _ _ hw.1
  rw [takes_len, takes_app, ← e] at h
  have hz := min_zeros (m := m) (by omega) (asc_srt T) fun x hx => h0 x ((asc_perm T).subset hx)
  exact hz.2 _ (h.perm (.refl _) (hp.trans (asc_perm T).symm))
theorem sum_eq {m : Nat} {J : List Job} {s : Str} {T : List Int} (hm : 1 ≤ m) (g : Gd (dayK m J s)) (hp : (J.map (·.2)).Perm T) (h0 : ∀ t ∈ T, 0 ≤ t) (hs : (J.map (·.2)).Pairwise (· ≤ ·)) : sumT (fin (dayK m J s)).dn = au m (asc T) := by
  obtain ⟨w, hw, e⟩ := fin_K g
  have h := placeMin _ _ [] _ _ (fun a ha => by cases ha) (by rw [takes_app]; exact fun t ht => h0 t (hp.subset ht)) (by rw [takes_app]; exact hs) hw
  rw [takes_len, takes_app, ← e] at h
  have hz := min_zeros (m := m) (by omega) (asc_srt T) fun x hx => h0 x ((asc_perm T).subset hx)
  exact IsMin.uniq (h.perm (.refl _) (hp.trans (asc_perm T).symm)) hz
theorem sum_one {j : Job} {J : List Job} {s : Str} (g : Gd (dayK 1 (j :: J) s)) (h0 : ∀ x ∈ J, 0 ≤ x.2) : sumT (fin (dayK 1 (j :: J) s)).dn = j.2 * ((J.length + 1 : Nat) : Int) + pm (J.map (·.2)) := by
  obtain ⟨w, hw, e⟩ := fin_K g
  have e1 : ([] ++ ((j :: J).take 1).map (·.2) ++ List.replicate (1 - (j :: J).length) 0 : List Int) = [j.2] := by
    have : 1 - (j :: J).length = 0 := by simp
    rw [this]; rfl
  have e2 : ((j :: J).drop 1).map (·.2) = J.map (·.2) := rfl
  rw [e1, e2] at hw
  have hm := min_one j.2 (asc_srt (J.map (·.2))) fun x hx => by
    obtain ⟨q, hq, rfl⟩ := List.mem_map.mp ((asc_perm _).subset hx)
    exact h0 q hq
  have hu := IsMin.uniq (hw.perm (.refl _) (asc_perm _).symm) hm
  rw [e, hu, asc_len, List.length_map, ← pm_au (asc_srt _), pm_perm (asc_perm _)]
  show (j.2 + 0) + (pm (J.map (·.2)) + j.2 * (J.length : Int)) = _
  rw [show ((J.length + 1 : Nat) : Int) = (J.length : Int) + 1 by omega, Int.mul_add, Int.mul_one]
  omega
/-! ### letters -/
def nmK (k : Nat) : Str := ["a", "b", "c", "d", "e", "f", "g", "h", "i", "j", "k", "l"].getD k ""
theorem nm_idx {μ : Mu} {k : Nat} (h : k < 12) : idxD μ (.str "abcdefghijkl") (.int (k : Nat)) = some (.str (nmK k)) := by
  match k, h with
  | 0, _ => rfl
  | 1, _ => rfl
  | 2, _ => rfl
  | 3, _ => rfl
  | 4, _ => rfl
  | 5, _ => rfl
  | 6, _ => rfl
  | 7, _ => rfl
  | 8, _ => rfl
  | 9, _ => rfl
  | 10, _ => rfl
  | 11, _ => rfl
  | k + 12, h => omega
theorem nms_all : ((List.range 12).all fun k => decide (1 ≤ (nmK k).length) && decide ((nmK k).length ≤ 12) && (nmK k).cps.toList.all (fun c => decide (c ∈ letters.cps.toList)) && (PyData.str (nmK k)).canLay0) = true := by decide +kernel
theorem nmK_ok {k : Nat} (h : k < 12) : NmOk (nmK k) := by
  have := List.all_eq_true.mp nms_all k (List.mem_range.mpr h)
  simp only [Bool.and_eq_true, decide_eq_true_eq, List.all_eq_true] at this
  exact ⟨this.1.1.1, this.1.1.2, this.1.2, this.2⟩
theorem nmK_inj_all : ((List.range 12).all fun i => (List.range 12).all fun j => decide (nmK i = nmK j → i = j)) = true := by decide +kernel
theorem nmK_inj {i j : Nat} (hi : i < 12) (hj : j < 12) (e : nmK i = nmK j) : i = j := by
  have := List.all_eq_true.mp (List.all_eq_true.mp nmK_inj_all i (List.mem_range.mpr hi)) j (List.mem_range.mpr hj)
  exact of_decide_eq_true this e
end Lk89

namespace Lk89
open PySem PySem.Spec PyProof.Rows L2 Z
local macro_rules | `(tactic| and_intros) => `(tactic| simp only [denS, denR, denE, denEs, denT, denTs, denBop, denN, denO, denC, denW, Exs.isNil, tos_seq, tos_bindR, tos_nx, tos_rt, tos_bk, tos_ct, to_bind, to_noex, to_ok, to_some, to_ite, to_fit, to_map, to_obind, tob_nil, var_z, var_o, var_s, set_z, set_s, Option.map_some, Option.bind_some, b_add, b_sub, b_mul, b_div, b_mod, b_pow, b_adds, b_addl, b_mull, c_lt, c_le, c_gt, c_ge, c_is, c_isn, c_eq, c_ne, e_int, t_bl, t_int, t_lst, t_non, i_tup, i_lst, i_loc, at0, at1, at2, l_lst, m_lst, l_scr, f_int, f_len, f_lens, f_lent, f_max2, f_min2, bt_bits, bd_bits, g_rng1, g_rng2, List.set_cons_zero, List.set_cons_succ, wipeR, s_lst, ld_lst, ok_lst, ok_tup, ok_int, ok_str, ok_bl, ok_non, is_ll, is_tt, is_lt, is_tl, is_li, is_ti, is_si, is_bi, is_ii, is_ss, is_ls, is_ts, f_isiL, f_lenT, f_srt, f_srtP, f_all, f_sumI, f_min1, f_max1, f_tup, bt_idx, bd_idx, g_rng3, g_lrg1, e_bl, rev_map, List.length_map, Bool.or_true, Bool.or_false,    Option.isNone_some, Option.isNone_none, Bool.not_false, Bool.not_true,  List.map_cons, List.map_nil, List.length_cons, List.length_nil, List.replicate, List.cons_append, List.nil_append])
local macro_rules | `(tactic| trivial) => `(tactic| first | exact ⟨rfl, rfl⟩ | exact ⟨True.intro, True.intro⟩ | exact ⟨rfl, True.intro⟩ | exact ⟨True.intro, rfl⟩ | exact True.intro | rfl)
local macro_rules | `(tactic| subst_eqs) => `(tactic| (refine tob_cons ?_; and_intros))

/-! ### a house with its jobs -/
def jbs (T : List Int) (row : List Nat) : List Job := row.map fun k => (nmK k, T.getD k 0)
section
variable {μ : Mu} {n g h k K m : Nat} {x : List D} {d : Dy} {Q : D → Mu → Prop} {L : List Str} {b : Int} {J : List Job} {s : Str} {T : List Int} {row : List Nat}
theorem Hs.mt (H : Hs μ g h x d k) (m f : Nat) (hm : methOf G.cs 2 m = some f) (hn : m ≠ 12) : methF G.cs m μ (.loc h) = some f := by
  obtain ⟨st, el, b, c, xs, h1, h2, h3, h4, h5, h6⟩ := H
  exact mh m f hm hn h2
theorem mt_come : methOf G.cs 2 26 = some 40 := rfl
theorem mt_wait : methOf G.cs 2 28 = some 41 := rfl
theorem mt_done : methOf G.cs 2 10 = some 36 := rfl
theorem mt_sum : methOf G.cs 2 27 = some 38 := rfl
theorem come_x {nm : Str} {t : Int} (S : St μ g h x (dayK m J s) k L) (hk : k ≤ 20) (hn : NmOk nm) (hnew : nm ∉ L) (hL : L.length ≤ 20) (t1 : 1 ≤ t) (t2 : t ≤ 1000)
    (hq : ∀ μ' s', St μ' g h x (dayK m (J ++ [(nm, t)]) s') (k + 1) (L ++ [nm]) → Q .non μ') : R.To (phi G.cs (fbs G.toGi) (n + 6) 40 [.loc h, .str nm, .int t] μ) Q := by
  have hlen := S.jb.length_eq
  generalize hd : dayK m J s = d at S
  have hcnt := jobs_cnt d
  have hlg := S.lg
  refine come_to S.ok S.H (by omega) hn (fun z => hnew (S.jb.subset z)) (by rw [hd] at hlen; omega) (by rw [hd] at hlen; omega) t1 t2 (tok t t1 t2) (by omega) fun μ' s' hs H' => ?_
  have ok1 : OkD { d with wt := d.wt ++ [(nm, t)], log := s' } := S.ok.add hn.ok (by rw [hd] at hlen; omega)
  refine hq μ' s' ?_
  have eb := beg_K (m := m) (J := J) (j := (nm, t)) (s := s') (s' := s)
  rw [hd] at eb
  rw [← eb]
  refine ⟨H', ok1.beg, Gd.beg (d := { d with wt := d.wt ++ [(nm, t)], log := s' }) S.gd.ne S.gd.ge fun j hj => ?_, (beg_jobs _).trans ?_, ?_⟩
  · rcases List.mem_append.mp hj with z | z
    · exact S.gd.tm j z
    · have : j = (nm, t) := by simpa using z
      rw [this]; show (0 : Int) ≤ t; omega
  · show (nmsR d.run ++ (d.wt ++ [(nm, t)]).map (·.1) ++ d.dn.map (·.1)).Perm (L ++ [nm])
    have hj : (nmsR d.run ++ d.wt.map (·.1) ++ d.dn.map (·.1)).Perm L := S.jb
    rw [List.map_append]
    refine List.Perm.trans ?_ (List.Perm.append_right [nm] hj)
    rw [← List.append_assoc]
    show ((nmsR d.run ++ d.wt.map (·.1)) ++ [nm] ++ d.dn.map (·.1)).Perm _
    rw [List.append_assoc _ [nm], List.append_assoc (nmsR d.run ++ d.wt.map (·.1)) (d.dn.map (·.1))]
    exact List.Perm.append_left _ List.perm_append_comm
  · show s'.length ≤ 60 * (k + 1)
    omega
theorem lawcome9 (hT : Tm T) (hg : μ[g]? = some (.lst x)) (h1 : 1 ≤ m) (h8 : m ≤ 8) (hr : ∀ k ∈ row, k < T.length) (hn : row.Nodup) (hl : row.length ≤ 12)
    (hq : ∀ μ' h s, St μ' g h x (dayK m (jbs T row) s) row.length (row.map nmK) → Q (.loc h) μ') : R.To (phi G.cs (fbs G.toGi) (n + 8) 84 [.int (m : Nat), .lst (T.map .int), .lst (row.map eN)] μ) Q := by
  have h12 := hT.l2
  refine to_phi fb84 rfl ?_
  unfold ir84
  subst_eqs
  refine house_to (by omega) (by omega) hg fun μ3 h H0 => ?_
  have S0 := St.day0 (by omega) (by omega) H0
  clear H0
  rw [Int.toNat_natCast, day0_K] at S0
  subst_eqs
  refine for_to (fun j ρ μ' => ∃ s s4, ρ = [.val (.int (m : Nat)), .val (.lst (T.map .int)), .val (.lst (row.map eN)), .val (.loc h), s4] ∧ St μ' g h x (dayK m (jbs T (row.take j)) s) j ((row.take j).map nmK)) _ 0 _ _ ⟨_, _, rfl, S0⟩ ?_ ?_
  · rintro j xx ρ μ' hx ⟨s, s4, rfl, S⟩
    rw [Nat.zero_add] at S ⊢
    have hj : j < row.length := by
      have := (List.getElem?_eq_some_iff.mp hx).1
      simpa using this
    have exx : xx = eN row[j] := by
      rw [List.getElem?_map, List.getElem?_eq_getElem hj] at hx
      exact (Option.some.inj hx).symm
    subst exx
    have hk := hr row[j] (List.getElem_mem hj)
    have hb := hT.c _ (getD_mem hk)
    refine ⟨[.val (.int (m : Nat)), .val (.lst (T.map .int)), .val (.lst (row.map eN)), .val (.loc h), .val (eN row[j])], rfl, ?_⟩
    subst_eqs
    simp only [S.H.mt 26 40 mt_come (by decide)]
    and_intros
    rw [nm_idx (by omega)]
    and_intros
    rw [at_get 0 hk]
    and_intros
    refine come_x S (by omega) (nmK_ok (by omega)) ?_ (by rw [List.length_map, List.length_take]; omega) hb.1 hb.2 fun μ7 s7 S7 => ?_
    · intro hm
      obtain ⟨q, hq, e⟩ := List.mem_map.mp hm
      obtain ⟨a, ha, rfl⟩ := List.getElem_of_mem hq
      rw [List.length_take] at ha
      rw [List.getElem_take] at e
      have e2 := nmK_inj (by have := hr row[a] (List.getElem_mem _); omega) (by omega) e
      have := List.pairwise_iff_getElem.mp hn a j (by omega) hj (by omega)
      exact this e2
    · and_intros
      have e1 : jbs T (row.take j) ++ [(nmK row[j], T.getD row[j] 0)] = jbs T (row.take (j + 1)) := by
        unfold jbs
        rw [List.take_succ_eq_append_getElem hj, List.map_append]; rfl
      have e2 : (row.take j).map nmK ++ [nmK row[j]] = (row.take (j + 1)).map nmK := by
        rw [List.take_succ_eq_append_getElem hj, List.map_append]; rfl
      rw [e1, e2] at S7
      exact ⟨s7, _, by trivial, S7⟩
  · rintro ρ μ' ⟨s, s4, rfl, S⟩
    rw [Nat.zero_add, List.length_map, List.take_of_length_le (Nat.le_refl _)] at S
    subst_eqs
    exact hq μ' h s S
theorem wait_x {a : Int} (S : St μ g h x d k L) (hk : k ≤ 20) (h1 : 1 ≤ a) (h2 : a ≤ 1000)
    (hq : ∀ μ' s, St μ' g h x { pas (d.now + a) d with now := d.now + a, log := s } (k + 1) L → Q .non μ') : R.To (phi G.cs (fbs G.toGi) (n + 6) 41 [.loc h, .int a] μ) Q := by
  have hlg := S.lg
  refine wait_to S.ok S.H (by omega) h1 h2 (tok a h1 h2) (by omega) fun μ' s hs H' => ?_
  refine hq μ' s ⟨H', (S.ok.pasN _ _).upd _ _, S.gd.wait _ _, ?_, ?_⟩
  · exact (pasN_jobs _ _ _).trans S.jb
  · show s.length ≤ 60 * (k + 1)
    omega
theorem OkD.finN : ∀ (k : Nat) {d : Dy}, OkD d → OkD (finN k d)
  | 0, d, g => g
  | k + 1, d, g => by
    unfold Lk89.finN
    cases hn : nextEnd d.run with
    | none => exact g
    | some e => exact OkD.finN k (g.stp e)
theorem OkD.fin (h : OkD d) : OkD (fin d) := OkD.finN _ h
theorem sum_x (S : St μ g h x d k L) (hq : Q (.int (sumT (fin d).dn)) μ) : R.To (phi G.cs (fbs G.toGi) (n + 4) 38 [.loc h] μ) Q := by
  exact sum_to S.ok S.H (by have := S.ok.fin.wl; omega) hq
end
end Lk89

namespace Lk89
open PySem PySem.Spec PyProof.Rows L2 Z
local macro_rules | `(tactic| and_intros) => `(tactic| simp only [denS, denR, denE, denEs, denT, denTs, denBop, denN, denO, denC, denW, Exs.isNil, tos_seq, tos_bindR, tos_nx, tos_rt, tos_bk, tos_ct, to_bind, to_noex, to_ok, to_some, to_ite, to_fit, to_map, to_obind, tob_nil, var_z, var_o, var_s, set_z, set_s, Option.map_some, Option.bind_some, b_add, b_sub, b_mul, b_div, b_mod, b_pow, b_adds, b_addl, b_mull, c_lt, c_le, c_gt, c_ge, c_is, c_isn, c_eq, c_ne, e_int, t_bl, t_int, t_lst, t_non, i_tup, i_lst, i_loc, at0, at1, at2, l_lst, m_lst, l_scr, f_int, f_len, f_lens, f_lent, f_max2, f_min2, bt_bits, bd_bits, g_rng1, g_rng2, List.set_cons_zero, List.set_cons_succ, wipeR, s_lst, ld_lst, ok_lst, ok_tup, ok_int, ok_str, ok_bl, ok_non, is_ll, is_tt, is_lt, is_tl, is_li, is_ti, is_si, is_bi, is_ii, is_ss, is_ls, is_ts, f_isiL, f_lenT, f_srt, f_srtP, f_all, f_sumI, f_min1, f_max1, f_tup, bt_idx, bd_idx, g_rng3, g_lrg1, e_bl, rev_map, List.length_map, Bool.or_true, Bool.or_false,    Option.isNone_some, Option.isNone_none, Bool.not_false, Bool.not_true,  List.map_cons, List.map_nil, List.length_cons, List.length_nil, List.replicate, List.cons_append, List.nil_append])
local macro_rules | `(tactic| trivial) => `(tactic| first | exact ⟨rfl, rfl⟩ | exact ⟨True.intro, True.intro⟩ | exact ⟨rfl, True.intro⟩ | exact ⟨True.intro, rfl⟩ | exact True.intro | rfl)
local macro_rules | `(tactic| subst_eqs) => `(tactic| (refine tob_cons ?_; and_intros))

/-! ### houses -/
theorem perm_eN {zs : List D} {m : Nat} (h : zs.Perm ((List.range m).map eN)) : ∃ row : List Nat, zs = row.map eN ∧ row.Perm (List.range m) := by
  obtain ⟨row, rfl⟩ := all_eN zs fun d hd => by
    obtain ⟨k, _, rfl⟩ := List.mem_map.mp (h.subset hd)
    exact ⟨k, rfl⟩
  refine ⟨row, rfl, ?_⟩
  let f : D → Nat := fun d => match d with
    | .int i => i.toNat
    | _ => 0
  have h2 := h.map f
  rw [List.map_map, List.map_map] at h2
  have e : (f ∘ eN) = id := rfl
  rw [e, List.map_id, List.map_id] at h2
  exact h2
theorem mem_le_sum : ∀ {l : List Int} {e : Int}, (∀ x ∈ l, 0 ≤ x) → e ∈ l → e ≤ l.sum ∧ 0 ≤ l.sum
  | [], _, _, h => by cases h
  | x :: l, e, h0, h => by
    have h1 := h0 x (List.mem_cons_self ..)
    have h2 : 0 ≤ l.sum := by
      have : ∀ l : List Int, (∀ x ∈ l, 0 ≤ x) → 0 ≤ l.sum := fun l => by
        induction l with
        | nil => exact fun _ => Int.le_refl _
        | cons y l ih =>
          intro h
          have a := h y (List.mem_cons_self ..)
          have b := ih fun z hz => h z (List.mem_cons_of_mem _ hz)
          rw [List.sum_cons]; omega
      exact this l fun z hz => h0 z (List.mem_cons_of_mem _ hz)
    rw [List.sum_cons]
    rcases List.mem_cons.mp h with rfl | h
    · omega
    · have := (mem_le_sum (fun z hz => h0 z (List.mem_cons_of_mem _ hz)) h).1
      omega
theorem bn_K {m : Nat} {J : List Job} {s : Str} {T : List Int} (hp : (J.map (·.2)).Perm T) (h0 : ∀ t ∈ T, 0 ≤ t) : Bn (dayK m J s) ((dayK m J s).now + T.sum) := by
  have hs : ((J.take m).map (·.2)).sum + ((J.drop m).map (·.2)).sum = T.sum := by
    rw [← List.sum_append, takes_app]
    exact perm_sum hp
  have ht : ∀ x ∈ (J.take m).map (·.2), 0 ≤ x := fun x hx => h0 x (hp.subset (by rw [← takes_app m J]; exact List.mem_append_left _ hx))
  have e : ends (dayK m J s).run = (J.take m).map (·.2) := by
    show ends ((J.take m).map some ++ List.replicate (m - J.length) none) = _
    rw [ends_app]
    have a : ∀ X : List Job, ends (X.map some) = X.map (·.2) := fun X => by
      induction X with
      | nil => rfl
      | cons j X ih =>
        show j.2 :: ends (X.map some) = _
        rw [ih]; rfl
    have b : ∀ z, ends (List.replicate z (none : Option Job)) = [] := fun z => by
      induction z with
      | zero => rfl
      | succ z ih => rw [List.replicate_succ]; exact ih
    rw [a, b, List.append_nil]
  have hw : (tms (dayK m J s).wt).sum = ((J.drop m).map (·.2)).sum := rfl
  have hn : (dayK m J s).now = 0 := rfl
  refine ⟨?_, fun x hx => ?_⟩
  · rw [hw, hn]
    have : 0 ≤ ((J.take m).map (·.2)).sum := by
      cases hz : (J.take m).map (·.2) with
      | nil => exact Int.le_refl _
      | cons y l =>
        rw [hz] at ht
        exact (mem_le_sum ht (List.mem_cons_self ..)).2
    omega
  · rw [e] at hx
    rw [hw, hn]
    have := (mem_le_sum ht hx).1
    omega
theorem over_all {d : Dy} {L : List Str} (hr : ends d.run = []) (hw : d.wt = []) (hj : (jobsOf d).Perm L) : (d.dn.map (·.1)).Perm L ∧ fin d = d := by
  have hn : nmsR d.run = [] := by
    have : ∀ r : List (Option Job), ends r = [] → nmsR r = [] := fun r => by
      induction r with
      | nil => exact fun _ => rfl
      | cons o r ih =>
        intro h
        cases o with
        | none => exact ih h
        | some j => cases h
    exact this _ hr
  constructor
  · have e : jobsOf d = nmsR d.run ++ d.wt.map (·.1) ++ d.dn.map (·.1) := rfl
    rw [e, hn, hw] at hj
    simpa using hj
  · have : mL d = 0 := by
      unfold mL
      rw [hr, hw]; rfl
    unfold fin
    rw [this]; rfl
section
variable {μ : Mu} {n g h k K m : Nat} {x : List D} {d : Dy} {Q : D → Mu → Prop} {L : List Str} {b : Int} {T : List Int} {row : List Nat}
theorem rnd (hg : μ[g]? = some (.lst x)) (hv : GenV x K) (hK : K ≤ 1000000) (b1 : 1 ≤ b) (b2 : b ≤ 100000)
    (hq : ∀ (r : Int) (y : List D), 0 ≤ r → r < b → GenV y (K + 101) → Q (.int r) (μ.set g (.lst y))) : R.To (phi G.cs (fbs G.toGi) (n + 2) 77 [.loc g, .int b] μ) Q := by
  refine rand_to fb76 fb77 hg hv ?_ ⟨b1, ?_⟩ hq
  · have : (10 : Nat) ^ 40 = 10000000000000000000000000000000000000000 := by decide
    omega
  · have : (100001 : Int) ≤ 2 ^ 3000 := by decide +kernel
    omega
theorem jbs_snd (T : List Int) (row : List Nat) : (jbs T row).map (·.2) = row.map fun k => T.getD k 0 := by
  unfold jbs
  rw [List.map_map]; rfl
theorem jbs_perm (hr : row.Perm (List.range T.length)) : ((jbs T row).map (·.2)).Perm T := by
  rw [jbs_snd]
  have h := (hr.trans (sn_perm T).symm).map fun k => T.getD k 0
  rw [sn_get] at h
  exact h.trans (asc_perm T)
theorem houses9 (hT : Tm T) (h5 : T.length ≤ 5) (hs : T.sum ≤ 1000) (hg : μ[g]? = some (.lst x)) (hv : GenV x K) (hK : K ≤ 100000) (hq : ∀ μ' y, μ'[g]? = some (.lst y) → GenV y (K + 1000) → Q (.bl true) μ') : R.To (phi G.cs (fbs G.toGi) (n + 9) 85 [.loc g, .lst (T.map .int)] μ) Q := by
  have h24 : sizeLine = 16777216 := by decide
  have h1 := hT.l1
  have hTb := hT.c
  have hT0 : ∀ t ∈ T, 0 ≤ t := fun t ht => by have := (hTb t ht).1; omega
  refine to_phi fb85 rfl ?_
  unfold ir85
  subst_eqs
  refine rnd hg hv (by omega) (by omega) (by omega) fun r1 y1 r10 r11 hy1 => ?_
  have hg1 : (μ.set g (.lst y1))[g]? = some (.lst y1) := List.getElem?_set_self (List.getElem?_eq_some_iff.mp hg).1
  revert hg1
  generalize μ.set g (.lst y1) = μ1
  intro hg1
  obtain ⟨m, hm⟩ : ∃ m : Nat, 1 + r1 = (m : Int) := ⟨(1 + r1).toNat, by omega⟩
  rw [b_add, hm]
  subst_eqs
  rw [enu_zip]
  refine cmp_all _ (fun p => eP (p.1, (p.2 : Int))) (fun p hp => ⟨_, rfl, ?_⟩) (by rw [List.length_zipIdx]; omega) ?_
  · and_intros
    exact ⟨by decide, rfl, by trivial⟩
  have e : (T.zipIdx.map fun p => eP (p.1, (p.2 : Int))) = (T.zipIdx.map fun p => (p.1, (p.2 : Int))).map eP := by rw [List.map_map]; rfl
  rw [e]
  and_intros
  refine cmp_all eP (fun p => .int p.2) (fun p hp => ⟨_, rfl, by and_intros; trivial⟩) (by rw [isrt_len, List.length_map, List.length_zipIdx]; omega) ?_
  have e2 : ((isrt leP (T.zipIdx.map fun p => (p.1, (p.2 : Int)))).map fun p => D.int p.2) = (sn T).map eN := sn_e T
  rw [e2]
  subst_eqs
  refine lsum9 (by omega) (by omega) hT ?_
  subst_eqs
  have hnd : ∀ row : List Nat, row.Perm (List.range T.length) → row.Nodup := fun row hr => hr.nodup_iff.mpr List.nodup_range
  have hrl : ∀ row : List Nat, row.Perm (List.range T.length) → row.length = T.length := fun row hr => by rw [hr.length_eq, List.length_range]
  have hrm : ∀ row : List Nat, row.Perm (List.range T.length) → ∀ k ∈ row, k < T.length := fun row hr k hk => List.mem_range.mp (hr.subset hk)
  have hsl := sn_len T
  refine lawcome9 hT hg1 (by omega) (by omega) (hrm _ (sn_perm T)) (hnd _ (sn_perm T)) (by omega) fun μ2 h2 s2 S2 => ?_
  simp only [S2.H.mt 27 38 mt_sum (by decide)]
  and_intros
  refine sum_x S2 ?_
  have hsa : ((jbs T (sn T)).map (·.2)).Pairwise (· ≤ ·) := by
    rw [jbs_snd, sn_get]; exact asc_srt T
  rw [sum_eq (by omega) S2.gd (jbs_perm (sn_perm T)) hT0 hsa]
  and_intros
  simp only [decide_true]
  and_intros
  subst_eqs
  have hg2 := S2.H.get
  clear S2
  refine ⟨by rw [rngOk_of (by omega) (by omega)]; exact decide_eq_true (by omega), ?_⟩
  rw [rng0]
  refine order_to fb76 fb77 fb80 hg2 hy1 ?_ ?_ ?_ fun zs y2 hzs hy2 => ?_
  · have : (10 : Nat) ^ 40 = 10000000000000000000000000000000000000000 := by decide
    rw [List.length_map, List.length_range]
    omega
  · rw [List.length_map, List.length_range]
    omega
  · intro dd hd
    obtain ⟨k, _, rfl⟩ := List.mem_map.mp hd
    exact pln_int
  have hg3 : (μ2.set g (.lst y2))[g]? = some (.lst y2) := List.getElem?_set_self (List.getElem?_eq_some_iff.mp hg2).1
  revert hg3
  generalize μ2.set g (.lst y2) = μ3
  intro hg3
  obtain ⟨row, rfl, hrow⟩ := perm_eN hzs
  subst_eqs
  refine lawcome9 hT hg3 (by omega) (by omega) (hrm _ hrow) (hnd _ hrow) (by rw [hrl _ hrow]; omega) fun μ4 h4 s4 S4 => ?_
  subst_eqs
  simp only [S4.H.mt 27 38 mt_sum (by decide)]
  and_intros
  refine sum_x S4 ?_
  have hlow := sum_low (T := T) (by omega) S4.gd (jbs_perm hrow) hT0
  rw [c_lt, decide_eq_false (show ¬ sumT (fin (dayK m (jbs T row) s4)).dn < au m (asc T) by omega)]
  and_intros
  subst_eqs
  simp only [S4.H.mt 28 41 mt_wait (by decide)]
  and_intros
  have hT1 : 1 ≤ T.sum := by
    cases hz : T with
    | nil => rw [hz] at h1; simp at h1
    | cons t ts =>
      have a := mem_le_sum (l := T) (e := t) hT0 (by rw [hz]; exact List.mem_cons_self ..)
      have b := (hTb t (by rw [hz]; exact List.mem_cons_self ..)).1
      rw [← hz]
      omega
  have hbn := bn_K (s := s4) (m := m) (jbs_perm hrow) hT0
  obtain ⟨o1, o2⟩ := all_over S4.gd hbn
  refine wait_x S4 (by rw [hrl _ hrow]; omega) hT1 hs fun μ5 s5 S5 => ?_
  have ⟨p1, p2⟩ := over_all (L := row.map nmK) (d := { pas ((dayK m (jbs T row) s4).now + T.sum) (dayK m (jbs T row) s4) with now := (dayK m (jbs T row) s4).now + T.sum, log := s5 }) o1 o2 S5.jb
  generalize { pas ((dayK m (jbs T row) s4).now + T.sum) (dayK m (jbs T row) s4) with now := (dayK m (jbs T row) s4).now + T.sum, log := s5 } = d5 at *
  subst_eqs
  simp only [S5.H.mt 10 36 mt_done (by decide)]
  and_intros
  refine hdone_to S5.H ?_
  subst_eqs
  have hdl : d5.dn.length = T.length := by
    have := p1.length_eq
    rw [List.length_map, List.length_map, hrl _ hrow] at this
    exact this
  refine cmp_all eJ (fun j => .str j.1) (fun j hj => ⟨_, rfl, ?_⟩) (by omega) ?_
  · and_intros
    rw [i_eJ, at0]
    and_intros
    trivial
  have en1 : (d5.dn.map fun j => D.str j.1) = (d5.dn.map (·.1)).map .str := by rw [List.map_map]; rfl
  rw [en1, f_srtS (by rw [List.length_map]; omega)]
  and_intros
  refine cmp_all eN (fun k => .str (nmK k)) (fun k hk => ⟨_, rfl, ?_⟩) (by rw [hrl _ hrow]; omega) ?_
  · have := hrm _ hrow k hk
    and_intros
    rw [nm_idx (by omega)]
    and_intros
    trivial
  have en2 : (row.map fun k => D.str (nmK k)) = (row.map nmK).map .str := by rw [List.map_map]; rfl
  rw [en2]
  and_intros
  rw [f_srtS (by rw [List.length_map, hrl _ hrow]; omega)]
  and_intros
  have es : isrt leS (d5.dn.map (·.1)) = isrt leS (row.map nmK) := isrt_eq leS_tot ((isrt_perm _).trans p1) (isrt_srt leS_tot _)
  rw [es]
  have hok : ∀ z ∈ isrt leS (row.map nmK), nmOk z := fun z hz => by
    obtain ⟨k, hk, rfl⟩ := List.mem_map.mp ((isrt_perm _).subset hz)
    exact (nmK_ok (by have := hrm _ hrow k hk; omega)).ok
  have eeq : ∀ μ : Mu, eqD μ (.lst ((isrt leS (row.map nmK)).map .str)) (.lst ((isrt leS (row.map nmK)).map .str)) = some true := fun μ => by
    have := (enc_lst enc_str).eqD (by omega) (μ := μ) hok hok
    rw [this, decide_eq_true rfl]
  rw [eeq]
  and_intros
  refine cmp_int eJ (·.2) (fun j hj => ⟨_, rfl, ?_⟩) (by omega) ?_
  · and_intros
    rw [i_eJ, at1]
    and_intros
    trivial
  and_intros
  simp only [S5.H.mt 27 38 mt_sum (by decide)]
  and_intros
  refine sum_x S5 ?_
  rw [p2]
  have esm : (d5.dn.map (·.2)).sum = sumT d5.dn := rfl
  rw [esm]
  and_intros
  simp only [decide_true]
  and_intros
  try rw [or_and]
  try and_intros
  have hg5 := S5.H.get
  subst_eqs
  refine lawcome9 (m := 1) hT hg5 (by omega) (by omega) (hrm _ hrow) (hnd _ hrow) (by rw [hrl _ hrow]; omega) fun μ6 h6 s6 S6 => ?_
  subst_eqs
  have ec : Z.cutD (row.map eN) (some 1) none = (row.drop 1).map eN := by
    rw [cut_map]
    exact congrArg _ (cut_sufN (k := 1))
  rw [ec]
  refine cmp_all eN eN (fun k hk => ⟨_, rfl, by and_intros; trivial⟩) (by rw [List.length_drop, hrl _ hrow]; omega) ?_
  obtain ⟨r0, rs, er⟩ : ∃ r0 rs, row = r0 :: rs := by
    cases hz : row with
    | nil => have := hrl _ hrow; rw [hz] at this; simp at this; omega
    | cons r0 rs => exact ⟨r0, rs, rfl⟩
  have hrsl : rs.length + 1 = T.length := by
    have := hrl _ hrow
    rw [er] at this
    exact this
  have hr0 : r0 < T.length := hrm _ hrow r0 (by rw [er]; exact List.mem_cons_self ..)
  have hrs : ∀ k ∈ rs, k < T.length := fun k hk => hrm _ hrow k (by rw [er]; exact List.mem_cons_of_mem _ hk)
  have eat : atI (row.map eN) 0 = some (eN r0) := by rw [er]; exact at0
  have edr : row.drop 1 = rs := by rw [er]; rfl
  rw [edr]
  have hb0 := hTb _ (getD_mem hr0)
  subst_eqs
  rw [eat]
  and_intros
  rw [at_get 0 hr0]
  and_intros
  refine ⟨mul_sz (a := 20) (b := 20) (sz_of (by omega) (by omega)) (sz_of (by omega) (by omega)) (by omega), ?_⟩
  refine ⟨by decide, ?_⟩
  rw [eq_nil fun x hx => by
    obtain ⟨k, _, rfl⟩ := List.mem_map.mp hx
    exact pln_int]
  and_intros
  refine R.To.mono (Q := fun d μ' => d = .int (pm (rs.map fun k => T.getD k 0)) ∧ μ' = μ6) ?_ ?_
  · cases hz : rs with
    | nil =>
      simp only [List.map_nil, List.isEmpty_nil, Bool.not_true]
      trivial
    | cons y ys =>
      rw [← hz]
      have e1 : (rs.map eN).isEmpty = false := by rw [hz]; rfl
      rw [e1]
      and_intros
      refine cmp_int eN (fun k => T.getD k 0) (fun k hk => ⟨_, rfl, ?_⟩) (by omega) ?_
      · and_intros
        rw [at_get 0 (hrs k hk)]
        and_intros
        trivial
      and_intros
      refine cmp_int eN (fun _ => 1) (fun k hk => ⟨_, rfl, by and_intros; trivial⟩) (by omega) ?_
      and_intros
      have hTr : Tm (rs.map fun k => T.getD k 0) := ⟨by rw [hz]; simp, by rw [List.length_map]; omega, fun t ht => by
        obtain ⟨k, hk, rfl⟩ := List.mem_map.mp ht
        exact hTb _ (getD_mem (hrs k hk))⟩
      have e2 : (rs.map fun _ => (1 : Int)) = (rs.map fun k => T.getD k 0).map fun _ => 1 := by rw [List.map_map]; rfl
      rw [e2]
      refine waiting9 hTr ⟨by rw [List.length_map, List.length_map]; omega, fun t ht => ?_⟩ (by rw [List.length_map]) ?_
      · obtain ⟨k, _, rfl⟩ := List.mem_map.mp ht
        omega
      · rw [pk_one, fm_one]
        trivial
  rintro d μ' ⟨rfl, rfl⟩
  and_intros
  subst_eqs
  simp only [S6.H.mt 27 38 mt_sum (by decide)]
  and_intros
  refine sum_x S6 ?_
  have ejb : jbs T row = (nmK r0, T.getD r0 0) :: jbs T rs := by rw [er]; rfl
  have hgd := S6.gd
  rw [ejb] at hgd
  rw [ejb, sum_one hgd fun z hz => by
    obtain ⟨k, hk, rfl⟩ := List.mem_map.mp hz
    exact hT0 _ (getD_mem (hrs k hk))]
  have ejl : (jbs T rs).length + 1 = T.length := by
    unfold jbs
    rw [List.length_map]; exact hrsl
  rw [ejl, jbs_snd]
  and_intros
  simp only [decide_true]
  refine hq _ y2 S6.H.get (hy2.mono ?_)
  rw [List.length_map, List.length_range]
  omega
end
end Lk89

namespace Lk89
open PySem PySem.Spec PyProof.Rows L2 Z
local macro_rules | `(tactic| and_intros) => `(tactic| simp only [denS, denR, denE, denEs, denT, denTs, denBop, denN, denO, denC, denW, Exs.isNil, tos_seq, tos_bindR, tos_nx, tos_rt, tos_bk, tos_ct, to_bind, to_noex, to_ok, to_some, to_ite, to_fit, to_map, to_obind, tob_nil, var_z, var_o, var_s, set_z, set_s, Option.map_some, Option.bind_some, b_add, b_sub, b_mul, b_div, b_mod, b_pow, b_adds, b_addl, b_mull, c_lt, c_le, c_gt, c_ge, c_is, c_isn, c_eq, c_ne, e_int, t_bl, t_int, t_lst, t_non, i_tup, i_lst, i_loc, at0, at1, at2, l_lst, m_lst, l_scr, f_int, f_len, f_lens, f_lent, f_max2, f_min2, bt_bits, bd_bits, g_rng1, g_rng2, List.set_cons_zero, List.set_cons_succ, wipeR, s_lst, ld_lst, ok_lst, ok_tup, ok_int, ok_str, ok_bl, ok_non, is_ll, is_tt, is_lt, is_tl, is_li, is_ti, is_si, is_bi, is_ii, is_ss, is_ls, is_ts, f_isiL, f_lenT, f_srt, f_srtP, f_all, f_sumI, f_min1, f_max1, f_tup, bt_idx, bd_idx, g_rng3, g_lrg1, e_bl, rev_map, List.length_map, Bool.or_true, Bool.or_false,    Option.isNone_some, Option.isNone_none, Bool.not_false, Bool.not_true,  List.map_cons, List.map_nil, List.length_cons, List.length_nil, List.replicate, List.cons_append, List.nil_append])
local macro_rules | `(tactic| trivial) => `(tactic| first | exact ⟨rfl, rfl⟩ | exact ⟨True.intro, True.intro⟩ | exact ⟨rfl, True.intro⟩ | exact ⟨True.intro, rfl⟩ | exact True.intro | rfl)
local macro_rules | `(tactic| subst_eqs) => `(tactic| (refine tob_cons ?_; and_intros))

/-! ### the law -/
section
variable {μ : Mu} {n g h k K m : Nat} {x : List D} {Q : D → Mu → Prop} {a b : Int} {T : List Int}
theorem draws {put : D → Rho → Option Rho} {elt : Rho → Mu → R D} {ρ : Rho} {c b : Int} {z : Nat} {Q : List D → Mu → Prop} (hp : ∀ i, i < z → ∃ ρ1, put (eN i) ρ = some ρ1 ∧ ∀ (μ : Mu) (x : List D) (K : Nat) (Q' : D → Mu → Prop), μ[g]? = some (.lst x) → GenV x K → K ≤ 900000 → (∀ r y, 0 ≤ r → r < b → GenV y (K + 101) → Q' (.int (c + r)) (μ.set g (.lst y))) → R.To (elt ρ1 μ) Q')
    (hz : z ≤ 1000) (hg : μ[g]? = some (.lst x)) (hv : GenV x K) (hK : K + 101 * z ≤ 900000) (hq : ∀ (U : List Int) (μ' : Mu) (y : List D), U.length = z → (∀ u ∈ U, c ≤ u ∧ u < c + b) → μ'[g]? = some (.lst y) → GenV y (K + 101 * z) → Q (U.map .int) μ') :
    R.To (compGo put (fun _ μ => R.ok true μ) elt ρ ((List.range z).map eN) [] μ) Q := by
  have hl := len_rng z
  refine cmp_st (fun j acc μ' => ∃ (U : List Int) (y : List D), acc = U.map .int ∧ U.length = j ∧ (∀ u ∈ U, c ≤ u ∧ u < c + b) ∧ μ'[g]? = some (.lst y) ∧ GenV y (K + 101 * j)) _ 0 [] μ ⟨[], x, rfl, rfl, fun u hu => (by cases hu), hg, hv⟩ (by simp; omega) ?_ ?_
  · rintro i d acc μ' hx ⟨U, y, rfl, h1, h2, h3, h4⟩
    rw [Nat.zero_add] at h1 h4 ⊢
    have hi : i < z := by
      have := (List.getElem?_eq_some_iff.mp hx).1
      simpa using this
    have ed : d = eN i := by
      rw [List.getElem?_map, List.getElem?_range hi] at hx
      exact (Option.some.inj hx).symm
    subst ed
    obtain ⟨ρ1, e1, e2⟩ := hp i hi
    refine ⟨ρ1, e1, e2 μ' y _ _ h3 h4 (by omega) fun r y' r0 r1 hy' => ?_⟩
    refine ⟨U ++ [c + r], y', by rw [List.map_append]; rfl, by rw [List.length_append, h1]; rfl, fun u hu => ?_, List.getElem?_set_self (List.getElem?_eq_some_iff.mp h3).1, hy'.mono (by omega)⟩
    rcases List.mem_append.mp hu with hu | hu
    · exact h2 u hu
    · rw [List.mem_singleton.mp hu]; omega
  · rintro acc μ' ⟨U, y, rfl, h1, h2, h3, h4⟩
    rw [Nat.zero_add, List.length_map, hl] at h1 h4
    exact hq U μ' y h1 h2 h3 h4
theorem weightsd9 {z : Nat} (hz : z ≤ 5) (hg : μ[g]? = some (.lst x)) (hv : GenV x K) (hK : K ≤ 100000) (hq : ∀ (U : List Int) (μ' : Mu) (y : List D), U.length = z → (∀ u ∈ U, 0 ≤ u ∧ u ≤ 1000) → μ'[g]? = some (.lst y) → GenV y (K + 1000) → Q (.lst (U.map .int)) μ') : R.To (phi G.cs (fbs G.toGi) (n + 3) 83 [.loc g, .int (z : Nat), .int 0] μ) Q := by
  refine to_phi fb83 rfl ?_
  unfold ir83
  subst_eqs
  refine ⟨by decide, ?_⟩
  refine rnd hg hv (by omega) (by omega) (by omega) fun r1 y1 r10 r11 hy1 => ?_
  have hg1 : (μ.set g (.lst y1))[g]? = some (.lst y1) := List.getElem?_set_self (List.getElem?_eq_some_iff.mp hg).1
  revert hg1
  generalize μ.set g (.lst y1) = μ1
  intro hg1
  obtain ⟨w, hw, w1, w2⟩ : ∃ w : Int, atI [D.int 2, .int 9, .int 30, .int 900] r1 = some (.int w) ∧ 1 ≤ w ∧ w ≤ 900 := by
    rcases (show r1 = 0 ∨ r1 = 1 ∨ r1 = 2 ∨ r1 = 3 by omega) with rfl | rfl | rfl | rfl
    · exact ⟨2, rfl, by omega, by omega⟩
    · exact ⟨9, rfl, by omega, by omega⟩
    · exact ⟨30, rfl, by omega, by omega⟩
    · exact ⟨900, rfl, by omega, by omega⟩
  rw [i_lst, hw]
  subst_eqs
  refine ⟨rngOk_of (by omega) (by omega), ?_⟩
  rw [rng0]
  refine draws (g := g) (c := 0) (b := w) (fun i hi => ⟨_, rfl, fun μ x K Q' a1 a2 a3 a4 => ?_⟩) (by omega) hg1 hy1 (by omega) fun U μ' y u1 u2 u3 u4 => ?_
  · and_intros
    refine rnd a1 a2 (by omega) (by omega) (by omega) fun r y r0 r1 hy => ?_
    and_intros
    exact a4 r y r0 r1 hy
  · exact hq U μ' y u1 (fun u hu => by have := u2 u hu; omega) u3 (u4.mono (by omega))
theorem cp_ints {T : List Int} (hl : T.length ≤ 1000) (hq : Q (.lst (T.map .int)) μ) : R.To (phi G.cs (fbs G.toGi) (n + 2) 82 [.lst (T.map .int)] μ) Q := cp_lst (f := D.int) (l := T) hl (fun a _ => cp_int ⟨rfl, rfl⟩) hq
theorem ex_ints {T : List Int} (hl : T.length ≤ 1000) (hq : Q (.bl true) μ) : R.To (phi G.cs (fbs G.toGi) (n + 2) 81 [.lst (T.map .int), .lst (T.map .int)] μ) Q := ex_lst (f := D.int) (l := T) hl (fun a _ => ex_int ⟨rfl, rfl⟩) hq
theorem cp3 {T U V : List Int} (h1 : T.length ≤ 1000) (h2 : U.length ≤ 1000) (h3 : V.length ≤ 1000) (hq : Q (.lst [.lst (T.map .int), .lst (U.map .int), .lst (V.map .int)]) μ) : R.To (phi G.cs (fbs G.toGi) (n + 3) 82 [.lst [.lst (T.map .int), .lst (U.map .int), .lst (V.map .int)]] μ) Q := by
  refine cp_lst (n := n + 2) (l := [T, U, V]) (f := fun L : List Int => D.lst (L.map .int)) (by simp) (fun L hL => ?_) hq
  refine cp_ints ?_ ⟨rfl, rfl⟩
  simp only [List.mem_cons, List.not_mem_nil, or_false] at hL
  rcases hL with rfl | rfl | rfl <;> assumption
theorem ex3 {T U V : List Int} (h1 : T.length ≤ 1000) (h2 : U.length ≤ 1000) (h3 : V.length ≤ 1000) (hq : Q (.bl true) μ) : R.To (phi G.cs (fbs G.toGi) (n + 3) 81 [.lst [.lst (T.map .int), .lst (U.map .int), .lst (V.map .int)], .lst [.lst (T.map .int), .lst (U.map .int), .lst (V.map .int)]] μ) Q := by
  refine ex_lst (n := n + 2) (l := [T, U, V]) (f := fun L : List Int => D.lst (L.map .int)) (by simp) (fun L hL => ?_) hq
  refine ex_ints ?_ ⟨rfl, rfl⟩
  simp only [List.mem_cons, List.not_mem_nil, or_false] at hL
  rcases hL with rfl | rfl | rfl <;> assumption
theorem sum_bnd : ∀ {l : List Int}, (∀ x ∈ l, 1 ≤ x ∧ x ≤ 100) → (l.length : Int) ≤ l.sum ∧ l.sum ≤ 100 * (l.length : Int)
  | [], _ => by simp
  | x :: l, h => by
    have a := h x (List.mem_cons_self ..)
    have b := sum_bnd (l := l) fun y hy => h y (List.mem_cons_of_mem _ hy)
    rw [List.sum_cons, List.length_cons]
    omega
theorem law_to {n : Nat} (ns : List Int) : R.To (phi G.cs (fbs G.toGi) (n + 10) 88 [.scr ns] []) fun d _ => d = .bl true := by
  refine to_phi fb88 rfl ?_
  unfold ir88
  subst_eqs
  refine gen_to fb78 fb79 (by omega) (by omega) fun x hx0 => ?_
  have hg : (([] : Mu) ++ [Cell.lst x])[([] : Mu).length]? = some (.lst x) := rfl
  revert hg
  generalize ([] : Mu).length = g
  generalize ([] : Mu) ++ [Cell.lst x] = μ1
  intro hg
  subst_eqs
  refine ⟨by decide, ?_⟩
  refine for_to (fun j ρ μ => ∃ y s2 s3 s4 s5 s6 s7 s8 s9, ρ = [.val (.scr ns), .val (.loc g), s2, s3, s4, s5, s6, s7, s8, s9] ∧ μ[g]? = some (.lst y) ∧ GenV y (10000 * j)) _ 0 _ _ ⟨_, _, _, _, _, _, _, _, _, rfl, hg, hx0⟩ ?_ ?_
  · rintro i xx ρ μ hx ⟨y, s2, s3, s4, s5, s6, s7, s8, s9, rfl, hg, hv⟩
    obtain ⟨hi, rfl⟩ := rng_at hx
    have hi3 : i < 3 := hi
    rw [Nat.zero_add] at hv ⊢
    generalize hii : (0 + (i : Int)) = ii
    refine ⟨[.val (.scr ns), .val (.loc g), .val (.int ii), s3, s4, s5, s6, s7, s8, s9], rfl, ?_⟩
    obtain ⟨a, ha, a1, a2⟩ : ∃ a : Int, atI [D.int 3, .int 5, .int 5] ii = some (.int a) ∧ 3 ≤ a ∧ a ≤ 5 := by
      rcases (show ii = 0 ∨ ii = 1 ∨ ii = 2 by omega) with rfl | rfl | rfl
      · exact ⟨3, rfl, by omega, by omega⟩
      · exact ⟨5, rfl, by omega, by omega⟩
      · exact ⟨5, rfl, by omega, by omega⟩
    obtain ⟨b, hb, b1, b2⟩ : ∃ b : Int, atI [D.int 4, .int 9, .int 100] ii = some (.int b) ∧ 4 ≤ b ∧ b ≤ 100 := by
      rcases (show ii = 0 ∨ ii = 1 ∨ ii = 2 by omega) with rfl | rfl | rfl
      · exact ⟨4, rfl, by omega, by omega⟩
      · exact ⟨9, rfl, by omega, by omega⟩
      · exact ⟨100, rfl, by omega, by omega⟩
    subst_eqs
    refine ⟨by decide, ?_⟩
    rw [ha]
    and_intros
    refine rnd hg hv (by omega) (by omega) (by omega) fun r1 y1 r10 r11 hy1 => ?_
    have hg1 : (μ.set g (.lst y1))[g]? = some (.lst y1) := List.getElem?_set_self (List.getElem?_eq_some_iff.mp hg).1
    revert hg1
    generalize μ.set g (.lst y1) = μ1
    intro hg1
    obtain ⟨z, hz⟩ : ∃ z : Nat, 1 + r1 = (z : Int) := ⟨(1 + r1).toNat, by omega⟩
    rw [b_add, hz]
    and_intros
    refine ⟨by decide, ?_⟩
    rw [hb]
    and_intros
    refine ⟨by decide, unp_to rfl ?_⟩
    dsimp only
    subst_eqs
    refine ⟨rngOk_of (by omega) (by omega), ?_⟩
    rw [rng0]
    refine draws (g := g) (c := 1) (b := b) (fun i hi => ⟨_, rfl, fun μ x K Q' c1 c2 c3 c4 => ?_⟩) (by omega) hg1 hy1 (by omega) fun T μ2 y2 t1 t2 hg2 hy2 => ?_
    · and_intros
      refine rnd c1 c2 (by omega) (by omega) (by omega) fun r y r0 r1 hy => ?_
      and_intros
      exact c4 r y r0 r1 hy
    have hT : Tm T := ⟨by omega, by omega, fun t ht => by have := t2 t ht; omega⟩
    have hTs : 1 ≤ T.sum ∧ T.sum ≤ 500 := by
      have := sum_bnd (l := T) fun t ht => by have := t2 t ht; omega
      omega
    and_intros
    refine weightsd9 (by omega) hg2 hy2 (by omega) fun U μ3 y3 u1 u2 hg3 hy3 => ?_
    refine ⟨by decide, unp_to rfl ?_⟩
    dsimp only
    subst_eqs
    refine ⟨rngOk_of (by omega) (by omega), ?_⟩
    rw [rng0]
    refine draws (g := g) (c := 0) (b := 2 * T.sum) (fun i hi => ⟨_, rfl, fun μ x K Q' c1 c2 c3 c4 => ?_⟩) (by omega) hg3 hy3 (by omega) fun V μ4 y4 v1 v2 hg4 hy4 => ?_
    · and_intros
      refine ⟨mul_sz (a := 20) (b := 20) (sz_of (by omega) (by omega)) (sz_of (by omega) (by omega)) (by omega), ?_⟩
      refine rnd c1 c2 (by omega) (by omega) (by omega) fun r y r0 r1 hy => ?_
      have := c4 r y r0 r1 hy
      rw [Int.zero_add] at this
      exact this
    have hU : Cn 0 1000 U := ⟨by omega, u2⟩
    have hV : Cn 0 100000 V := ⟨by omega, fun v hv => by have := v2 v hv; omega⟩
    have hl : U.length = T.length := by omega
    have hl2 : V.length = T.length := by omega
    subst_eqs
    refine ⟨by decide, ?_⟩
    refine cp3 (by omega) (by omega) (by omega) ?_
    subst_eqs
    refine houses9 hT (by omega) (by omega) hg4 hy4 (by omega) fun μ5 y5 hg5 hy5 => ?_
    and_intros
    refine ovens9 hT hU hl hV hl2 fun μ6 hx6 => ?_
    and_intros
    refine aroundr9 hT (by omega) ?_
    and_intros
    refine ⟨by decide, ?_⟩
    refine ex3 (by omega) (by omega) (by omega) ?_
    and_intros
    try rw [or_and]
    try and_intros
    exact ⟨y5, _, _, _, _, _, _, _, _, rfl, hx6 _ _ hg5, hy5.mono (by omega)⟩
  · rintro ρ μ ⟨y, s2, s3, s4, s5, s6, s7, s8, s9, rfl, hg, hv⟩
    subst_eqs
    trivial
end
theorem lawMeans (ns : List Int) (hn : ns.length ≤ 63) : ∃ μ, phi G.cs (fbs G.toGi) 10 LAWIX [.scr ns] [] = .ok (.bl true) μ := by
  obtain ⟨d, μ, e, rfl⟩ := (law_to (n := 0) ns).ex
  exact ⟨μ, e⟩
end Lk89

namespace Lk89
open PySem PySem.Spec PyProof.Rows L2 Z
theorem lawFi : G.fns[LAWIX]? = some fi88 := rfl
end Lk89
open PySem PySem.W PySem.Calls PyProof.Rows
theorem PySem.Challenge.cw_joborders_k89_whole_days_and_ovens_many_holds : PySem.Challenge.rw_joborders_k89_whole_days_and_ovens_many.Holds := by
  w_on; o_law
  refine HandSHeadRun.head_any (r := Lk89.Rw) (q := view Lk89.Rw.prog [99]) (H := Lk89.hkZ) (ob := Lk89.obZ) (M := 40000) (loose := Lk89.looseZ) (d := HandSHeadRun.topDef Lk89.Rw.prog 99) (kwd := []) Lk89.obZ_eq
    (by kernel_rfl) (fun s => by kernel_rfl) Lk89.runZ (by kernel_rfl) (by kernel_rfl) (by kernel_rfl) (by rfl) (by first | assumption | decide +kernel) (by decide +kernel) ⟨rfl, rfl, rfl, rfl, rfl, by decide +kernel⟩ ?hw ?hc
  case hw => w_witness2
  case hc =>
    refine L2.walk_ofE (l := PySem.Challenge.rw_joborders_k89_whole_days_and_ovens_many) (n := 63) (k := 2 * 10 + 2) (x := "script") (CX := L2.CX0) rfl (by decide) (by kernel_rfl) ⟨rfl, by decide, by decide⟩ ?F (fun _ _ _ _ z => z)
    intro w mg fa h Y N hmg0
    have hmg : mg ("law" : PySem.Str) = some (.ref fa) := by
      have e : (HandSHeadRun.topDef Lk89.Rw.prog 99).name = ("law" : PySem.Str) := by kernel_rfl
      rw [← e]
      exact hmg0
    exact Z.lawF Lk89.wf Lk89.lawFi rfl rfl Lk89.lawMeans w mg fa h Y N hmg


